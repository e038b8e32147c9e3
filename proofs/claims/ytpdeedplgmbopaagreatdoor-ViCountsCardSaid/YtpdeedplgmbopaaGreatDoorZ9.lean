import Derived.Test.YtpdeedplgmbopaaGreatDoorZ4
import Derived.Test.YtpdeedplgmbopaaGreatDoorZ8
import Derived.Test.YtpdeedplgmbopaaGreatDoorZ7
import Derived.Test.YtpdeedplgmbopaaGreatDoorZ6
import Derived.Test.YtpdeedplgmbopaaGreatDoorZ3
import Derived.Maps.RangeRun
set_option linter.unusedSimpArgs false
set_option linter.unusedVariables false
/- Texts of mine, joined, their names in short: UList7 Grp0 Hist EdM ETyM ETyM2 Map. -/
section
namespace Go.Proofs.YtpdeedplgmbopaaGreatDoor
open Go.RowKit
open _root_.Go.Proofs.Tryz
theorem WW {G : List (List jl)} {k : Nat} (hk : k < G.length) : G.take (k + 1) = G.take k ++ [G.getD k []] := by
  rw [List.take_succ_eq_append_getElem hk, List.getD_eq_getElem?_getD, List.getElem?_eq_getElem hk]
  rfl
theorem JB {G : List (List jl)} {g : List jl} (h : g ∈ G) : g.length ≤ (G.map List.length).sum := by
  induction G with
  | nil => cases h
  | cons x G ih =>
    rw [List.map_cons, List.sum_cons]
    rcases List.mem_cons.1 h with rfl | h
    · omega
    · have := ih h; omega
theorem QG {es : List eF} {l : List jl} (h : es.map eF.says = l) (hl : ∀ e ∈ l, EB e) : ∀ k, k < es.length → EB (es.getD k default).says := fun k hk =>
  hl _ (by rw [← h]; exact List.mem_map_of_mem (yU hk))
section
variable {w0 w : World} {F : HP} {p : Nat} {G : List (List jl)} {N : List jl} {op : Int}
theorem KA (H : V w0 w (jm p G N op • F)) : iI prog 130 #[.pointer (some ⟨p, 0, none⟩)] w fun v w' => ∃ q, v = .pointer (some ⟨q, 0, none⟩) ∧ V w0 w' (jm q G N op • jm p G N op • F) := by
 refine jr func130 ntmps130 ?_
 refine jR O (aO (bT O (dS O func158 (lQ H) ?_)))
 rintro _ _ ⟨rfl, rfl⟩
 refine iL (qH (gQ (aO ?_)))
 obtain ⟨CS, Aj, oO, nP, lV, wP, uJ, Ic, Ie, MG, rC⟩ := (H).zh
 have hLn : nP.length ≤ 16384 := by omega
 have hBn := QG uJ lV.2.2.2.2.2
 refine aC (nK O O (Z (dM bK O sizeOf235 O O (rC).get.2) (jV (iy (l := [_, _, _, _, _]) rC zeroValue235 O) ?_)))
 rintro _ w3 ⟨b3, rfl, H3⟩
 refine aI (dw 0 (l' := [_, _, _, _, _]) (us := [_, _, _, _, _]) H3 sizeOf235 O O O (aX (by first | rfl | exact Rd.one ((H3.f3).aQ)) (aX (by first | rfl | exact Rd.one ((H3.f5).aQ)) (aG (aG (aG bQ))))) O O) ?_
 rintro _ w4 H4
 refine rZ O (dL O (bJ 0 bK O dJ O (bJ 1 bU O bM O (fV aV O (H4.f2).get.2 O (dS O func173 (Dw H4.f6.f6 hBn hLn) ?_)))))
 rintro u5 w5 ⟨fs5, afy, H5⟩
 obtain ⟨es1, rfl⟩ : ∃ q, q = fs5 := ⟨_, rfl⟩
 have hes1 := afy
 refine bJ 0 bK O dJ O (bJ 0 bU O fZ O (aI (st5 0 H5.f5 fZ) ?_))
 rintro _ w6 H6
 refine bJ 0 bK O dJ O (bJ 1 bU O bM O (aI (fU 1 (l' := [_, _, _, _, _]) H6 bM O O (by first | rfl | exact Rd.one ((H6.f2).aQ)) O O) ?_))
 rintro _ w7 H7
 refine qR (bT O (dL O (bJ 0 bK O dJ O (bJ 0 bU O fZ O (fV bI O (H7.f6).get.2 O (Z (kH ((H7.f7).aQ) bI O) (bP O (iL (aY ?_)))))))))
 obtain ⟨abR, abS, aeg, -⟩ := ((H7.f7).aQ).form
 subst aeg
 refine gV [(3, _), (25, _), (26, _)] (fun (k : Nat) => [(27, .int .i64 (k : Int))]) (fun (k : Nat) W => k ≤ oO.length ∧ ∃ gu, ∃ hs : List (Value × List eF), hs.map (fun g => g.2.map eF.says) = G.take k ∧ V w0 W (dW b3 (.cells #[gu, u5, .int .i64 op, .int .i64 (gG G N : Nat), .bool true] 235 (0, 0)) • Row 80 1 gu hs.length (hs.map (·.1)) • pJ hs • Row 189 3 u5 es1.length (es1.flatMap eF.enc) • lU es1 • dW p (.cells #[(.slice abR (oO.length) abS), Aj, .int .i64 op, .int .i64 (gG G N : Nat), .bool true] 235 (0, 0)) • Row 80 1 (.slice abR (oO.length) abS) oO.length (oO.map (·.1)) • pJ oO • Row 189 3 Aj nP.length (nP.flatMap eF.enc) • lU nP • F)) (fun (k : Nat) => oO.length - k) (0) vZ mG ⟨by omega, _, [], O, ((H7.f5.f5.f8.f8.f8.f6.f8.f8).Gm none).aaO.f5⟩ ?_
 rintro k w9 ⟨hk, gu, hs, YS, HL⟩
 dsimp only [List.cons_append, List.nil_append]
 refine iV (Z (gB O O) (qR (bH O (fun h1 => ?_) (fun h1 => ?_))))
 ·(try simp only [aA] at h1)
  refine gQ (aO (aY (iV ?_)))
  obtain ⟨ag1, ag2, rfl⟩ := Rd.pos ((HL.f7).aQ) (by omega)
  refine Z (dP bI bM O O (by omega)) ?_
  refine Z (fG (dA aV O) O (by first | exact Rd.mZ ((HL.f7).aQ) (by omega) | exact Rd.yA ((HL.f7).aQ) (by omega) | exact Rd.xX ((HL.f7).aQ) (by omega))) ?_
  have hkl : k < oO.length := by omega
  rw [show (oO.map (·.1)).getD k undef = (oO.getD k default).1 from by simp [List.getD_eq_getElem?_getD, hkl]]
  obtain ⟨gl, zk, hg⟩ : ∃ gl zk, oO.getD k default = (gl, zk) := ⟨_, _, rfl⟩
  rw [hg]
  have YT := HL.f8
  have YU := YT.JA hkl hg
  have hge : zk.map eF.says = G.getD k [] := by
   rw [← wP]
   have h9 : (oO.map (fun g => g.2.map eF.says)).getD k [] = (oO.getD k default).2.map eF.says := by simp [List.getD_eq_getElem?_getD, hkl]
   rw [h9, hg]
  have hgm : G.getD k [] ∈ G := yU (by omega)
  have hBg := QG hge (lV.2.2.2.2.1 _ hgm)
  have hLg : zk.length ≤ 16384 := by
   have h8 := lV.2.1
   unfold gG at h8
   have h7 := congrArg List.length hge
   rw [List.length_map] at h7
   have h6 := JB hgm
   omega
  have hhl := congrArg List.length YS
  rw [List.length_map, List.length_take] at hhl
  refine fP O ?_
  have abT := YU.drew
  have KC := V.kp (abT.f11.f11.f11.f11.f11.f11.f11.f11.f11.f11.f11)
  refine y9 [2] KC O (iq 0 O KC 0 bK O dJ O (iq 1 O KC 0 bU O fZ O (jQ 2 O KC (fun W hW => kF bI O ((Kp.h hW).f3).get.2 O) (iU 3 O KC O (nD 4 O (xW O func173 (Ap abT hBg hLg)) ?_)))))
  rintro u12 w12 ⟨YQ, abQ, wL⟩
  obtain ⟨es2, rfl⟩ : ∃ q, q = YQ := ⟨_, rfl⟩
  have hes2 := abQ
  have Kt := V.kp (wL.f13.f13.f13.f13.f13.f13.f13.f13.f13.f13.f13.f13.f13)
  refine eG Kt (fun W hW => (Kp.h hW).right.right.f11.f11.f11.f11.f11.f11.f11.f11.f11.f11.f11) ?_
  refine nD 5 O (kZ (vs := [_]) wL bI bM ny O O O (by decide) (aX (by first | rfl | exact Rd.one ((wL).aQ)) bQ)) ?_
  rintro l13 Qs xZ
  have yc := V.kp (xZ.f14.f14.f14.f14.f14.f14.f14.f14.f14.f14.f14.f14.f14.f14)
  refine eG yc (fun W hW => (Kp.h hW).right.f13.f13.f13.f13.f13.f13.f13.f13.f13.f13.f13.f13.f13) ?_
  refine nD 6 O (iw xZ.f7 bI IZ O O O ((xZ).aQ) (aX (by first | rfl | exact Rd.one ((xZ.f2).aQ)) bQ) (by omega) (by omega)) ?_
  rintro l14 P6 Az
  have acE := Az.f2.right
  have yg := V.kp (acE.f13.f13.f13.f13.f13.f13.f13.f13.f13.f13.f13.f13.f13)
  refine gU yg (by kernel_rfl) ?_
  refine iq 7 O yg 0 bK O dJ O (iq 8 O yg 0 bU O fZ O ?_)
  refine gy 9 O (by kernel_rfl) (fU 0 (l' := [_, _, _, _, _]) acE.f6 fZ O O (by first | rfl | exact Rd.one ((acE).aQ)) O O) ?_
  rintro _ w16 uY
  have Dx := V.kp (uY.f13.f13.f13.f13.f13.f13.f13.f13.f13.f13.f13.f13.f13)
  refine gU Dx (by kernel_rfl) ?_
  have X := V.rO (es := es2) (uY.f5.right.f12.f12.f7.f12.f12.f12.f12.f8.f12.f10.f12.f12).deep
  have HN := (V.uz X.swap).aaO.f3
  have hnew : (hs ++ [(u12, es2)]).map (fun g => g.2.map eF.says) = G.take (k + 1) := by rw [List.map_append, YS, WW (by omega), ← hge, ← hes2]; rfl
  refine ru (aK (aW (aC (Z (fO O O (by omega)) (bP O (bY ?_))))))
  refine dU (k + 1) ?_ ?_ ?_ ?_
  ·exact mG
  ·exact vZ
  ·(try dsimp only)
   first | done | exact ⟨by omega, _, _, hnew, HN⟩
  ·(try dsimp only); omega
 ·(try simp only [aA] at h1)
  refine dO (aN (aN (bn (aW (jP O (dK results130 O ?_))))))
  rw [List.take_of_length_le (by omega)] at YS
  have X := V.oD (gs := hs) (now := es1) lV YS (hes1.trans uJ) rfl (HL.f10.f10.f10.f10.f10.f10.f10.f10.f10.f10)
  have Y := V.oD lV wP uJ rfl X.f6.f6.f6.f6.f6
  exact ⟨_, O, Y.swap⟩
end
end Go.Proofs.YtpdeedplgmbopaaGreatDoor
end
section
namespace Go.Proofs.YtpdeedplgmbopaaGreatDoor
open Go.RowKit
def Fp (G : List (List jl)) (N : List jl) : List (List jl) := (og G N).reverse
def OX (N : List jl) : List (List jl) := if N = [] then [] else [N]
theorem YV (N : List jl) : (OX N).length ≤ 1 := by unfold OX; split <;> simp
theorem aaR (G : List (List jl)) (N : List jl) : Fp G N = OX N ++ G.reverse := by
  unfold Fp OX og; split <;> simp
end Go.Proofs.YtpdeedplgmbopaaGreatDoor
end
section
namespace Go.Proofs.YtpdeedplgmbopaaGreatDoor
open Go.RowKit
open _root_.Go.Proofs.Tryz
abbrev qN := ByteArray × Int
def CB (x : qN) : List Value := [.string x.1, .int .i64 x.2]
theorem NQ (x : qN) : (CB x).length = 2 := rfl
def afz (x : qN) : Prop := x.1.size ≤ 16384 ∧ 0 ≤ x.2
def HOk (hl : List qN) (base most : Int) : Prop := hl.length ≤ 4096 ∧ 1 ≤ base ∧ base ≤ 4611686018427387904 ∧ (hl.length : Int) ≤ most ∧ most ≤ 4096 ∧ ∀ x ∈ hl, afz x
def iT (p : Nat) (hl : List qN) (base most : Int) : HP := uZ fun (v : Value) => fact (HOk hl base most) • dW p (.cells #[v, .int .i64 base, .int .i64 most] 153 (0, 0)) • Row 218 2 v hl.length (hl.flatMap CB)
section
variable {P : Program} {L : List (Nat × Value)} {w0 w : World} {F : HP} {ty : TypeId} {p : Nat} {hl : List qN} {base most : Int} {v : Value}
theorem KD {t e sz : Nat} {z : Value} (H : V w0 w F) (ht : P.underlying t = some (.slice e)) (hs : ∀ w, (sizeOf e).run P w = .ok sz w) (hz : ∀ w, (zeroValue e).run P w = .ok z w) :
    wH P L (.buildSlice t 0 #[]) ty w fun v w' => V w0 w' (Row e sz v 0 [] • F) := by
  refine wz (v := .slice (some ⟨w.heap.size, 0, none⟩) 0 0) (w' := w.alloc (.cells #[] e)) ?_ ?_
  · intro ρ hρ d pos oM g
    simp only [execOp, Instr.buildSlice, Sem.run_bind, run_underlying ht, Result.andThen_ok, hs]
    have h0 : Array.map (fun (_ : Nat) => (default : Value)) (Array.range 0) = #[] := Array.eq_empty_of_size_eq_zero (by simp)
    simp [Instr.fill, newRow, h0]
  · exact (H.alloc _).right.jw _
theorem V.hist (H : V w0 w (iT p hl base most • F)) : ∃ v, HOk hl base most ∧ V w0 w (dW p (.cells #[v, .int .i64 base, .int .i64 most] 153 (0, 0)) • Row 218 2 v hl.length (hl.flatMap CB) • F) := by
  obtain ⟨v, H⟩ := H.nN
  obtain ⟨h, H⟩ := H.flat.fact
  exact ⟨v, h, H.flat⟩
theorem V.Gq (h : HOk hl base most) (H : V w0 w (dW p (.cells #[v, .int .i64 base, .int .i64 most] 153 (0, 0)) • Row 218 2 v hl.length (hl.flatMap CB) • F)) : V w0 w (iT p hl base most • F) :=
  V.jv v (V.deep (V.lJ h H.deep))
theorem Vy {hl : List qN} : ∀ x ∈ hl.flatMap CB, x.oneCell' = true := by
  intro x hx
  obtain ⟨e, _, hx⟩ := List.mem_flatMap.1 hx
  simp [CB] at hx
  rcases hx with rfl | rfl <;> rfl
theorem aaS : (prog.info? 218).map (fun i => (i.zero, i.size, i.bytes)) = some (some (.agg #[.string .empty, .int .i64 0]), 2, 24) := by kernel_rfl
theorem OY (H : V w0 w F) (hr : Wy w0 F 2 v hl.length (hl.flatMap CB)) (hb : hl.length ≤ 1099511627776) :
    iI prog 150 #[v] w fun v' w' => V w0 w' (Row 218 2 v' hl.length (hl.flatMap CB) • F) := by
  obtain ⟨hlen, a, c, rfl, h1, h2, h3⟩ := hr w H
  refine jr func150 ntmps150 ?_
  refine jR O (aO (bT O (Z (CX gW O O) ?_)))
  refine jL O (fun h1 => ?_) (fun h1 => ?_)
  · (try simp only [aA] at h1)
    refine jP O (aB (dK results150 O ?_))
    obtain rfl : a = none := by simpa using h1
    obtain rfl : hl = [] := by
      cases hl with
      | nil => rfl
      | cons x l => obtain ⟨b, o, e, _⟩ := h3 (by simp); cases e
    exact H.jw none
  · (try simp only [aA] at h1)
    refine gQ (iV (jV (KD H gW sizeOf218 zeroValue218) ?_))
    rintro _ w1 H1
    refine bP O (jV (iw H1 gW aaS O O O (hr.under _ H1) Vy (by omega) (by omega)) ?_)
    rintro _ w2 H2
    refine fC O (dK results150 O ?_)
    exact H2.of_eq (by rw [Nat.zero_add, List.nil_append])
theorem EL (H : V w0 w (iT p hl base most • F)) : iI prog 149 #[.pointer (some ⟨p, 0, none⟩)] w fun v w' => v = .bool false ∧ w = w' := by
 refine jr func149 ntmps149 ?_
 refine jR O (aO ?_)
 obtain ⟨Uc, EC, CU⟩ := (H).hist
 refine aC (bP O (Z (iR kR O O) (jJ O (fun h1 => ?_) (fun h1 => ?_))))
 ·(try simp only [aA] at h1)
  exfalso; first | contradiction | omega
 ·(try simp only [aA] at h1)
  refine bg (bP O (bg (dL O (bg (bJ 0 lW O sizeOf151 O (bg (bJ 1 lX O sizeOf2 O (bg (fV underlying2 O (CU).get.2 O (bg (Z (dX O O) (ig O O (fC O (dK results149 O ?_))))))))))))))
  exact ⟨by rw [show (base == 0) = false from by rw [beq_eq_false_iff_ne]; have := EC.2.1; omega], O⟩
theorem OZ {n : Int} (H : V w0 w F) (hn : 0 ≤ n ∧ n ≤ 4096) : iI prog 55 #[.int .i64 n] w fun v w' => ∃ p, v = .tuple #[.pointer (some ⟨p, 0, none⟩), .int .i64 0] ∧ V w0 w' (iT p [] 1 n • F) := by
  refine jr func55 ntmps55 ?_
  refine iV (iJ O (vY O (bT O (Z (gB O O) (jJ O (fun h1 => ?_) (fun h1 => ?_))))))
  · (try simp only [aA] at h1)
    exfalso; first | contradiction | omega
  · (try simp only [aA] at h1)
    refine bg (bP O (bg (Z (dY O O) (ig O O (jL O (fun h2 => ?_) (fun h2 => ?_))))))
    · (try simp only [aA] at h2)
      exfalso; first | contradiction | omega
    · (try simp only [aA] at h2)
      refine gQ (bT O (Z (mF (pl := #[(0, 1), (1, 1), (2, 1)]) (#[_, _, _]) lX zeroValue151 (fun w => by kernel_rfl) O (O)) (Z (mF (pl := #[(0, 3)]) (#[_, _, _]) lW zeroValue153 (fun w => by kernel_rfl) O (O)) (jV (jH (l := [_, _, _]) H O O) ?_))))
      rintro _ w1 ⟨b1, rfl, H1⟩
      refine iJ O (fC O (P5 results55 O O ?_))
      exact ⟨_, O, V.Gq (v := .slice none 0 0) ⟨by simp, by decide, by decide, by simp; omega, by omega, by simp⟩ ((H1.jw none).swap)⟩
theorem qy (H : V w0 w (iT p hl base most • F)) : iI prog 117 #[.pointer (some ⟨p, 0, none⟩)] w fun v w' => v = .int .i64 hl.length ∧ V w0 w' (iT p hl base most • F) := by
 refine jr func117 ntmps117 ?_
 refine jR O (aO (bT O (dS O func149 (EL H) ?_)))
 rintro _ _ ⟨rfl, rfl⟩
 refine iL (qH (gQ (aO ?_)))
 obtain ⟨Uc, EC, CU⟩ := (H).hist
 refine aC (nK O O (bJ 0 lW O sizeOf151 O (bJ 0 lX O sizeOf149 O (fV gW O (CU).get.2 O (Z (kH ((CU.f2).aQ) gW O) (fC O (dK results117 O ?_)))))))
 have QB := CU.f2.f2
 have P7 := V.Gq EC QB
 exact ⟨O, P7⟩
theorem vP (H : V w0 w (iT p hl base most • F)) : iI prog 109 #[.pointer (some ⟨p, 0, none⟩)] w fun v w' => ∃ q, v = .pointer (some ⟨q, 0, none⟩) ∧ V w0 w' (iT q hl base most • iT p hl base most • F) := by
 refine jr func109 ntmps109 ?_
 refine jR O (aO (bT O (dS O func149 (EL H) ?_)))
 rintro _ _ ⟨rfl, rfl⟩
 refine iL (qH (gQ (aO ?_)))
 obtain ⟨Uc, EC, CU⟩ := (H).hist
 have hcl := EC.1
 have Ez := CU.drew
 have je := V.kp (Ez.f2.f2)
 refine y9 [4, 10, 15] je O (iU 0 O je O (jY 1 O je O (iq 2 O je 0 lW O sizeOf151 O (iq 3 O je 0 lX O sizeOf149 O (jQ 4 O je (fun W hW => kF gW O ((Kp.h hW)).get.2 O) (iU 6 O je O (jY 7 O je O (iq 8 O je 0 lW O sizeOf151 O (iq 9 O je 1 lX O sizeOf2 O (jQ 10 O je (fun W hW => kF underlying2 O ((Kp.h hW)).get.2 O) (iU 11 O je O (jY 12 O je O (iq 13 O je 0 lW O sizeOf151 O (iq 14 O je 2 lX O ay O (jQ 15 O je (fun W hW => kF aH O ((Kp.h hW)).get.2 O) (nD 5 O (xW O func150 (OY Ez (fun W HW => (HW.f2).aQ) (by omega))) ?_))))))))))))))))
 rintro u3 w3 H3
 have Bv := V.kp (H3.f3.f3.f3)
 refine eG Bv (fun W hW => (Kp.h hW).right.f2.f2) ?_
 obtain ⟨au3, cu3, eu3, -⟩ := ((H3).aQ).form
 subst eu3
 refine jB 16 O Bv (fun _ => mF (pl := #[(0, 1), (1, 1), (2, 1)]) (#[_, _, _]) lX zeroValue151 (fun w => by kernel_rfl) O (O)) (jB 17 O Bv (fun _ => mF (pl := #[(0, 3)]) (#[_, _, _]) lW zeroValue153 (fun w => by kernel_rfl) O (O)) (nD 18 O (jH (l := [_, _, _]) H3 O O) ?_))
 rintro _ w4 ⟨b4, rfl, H4⟩
 have Ai := V.kp (H4.f4.f4.f4.f4)
 refine gU Ai (by kernel_rfl) ?_
 refine jB 19 O Ai (fun _ => dR O) (ru (aW (nO (dK results109 O ?_))))
 have Ho6 := H4.f4.f4
 have Hc7 := V.Gq EC Ho6
 exact ⟨_, O, V.Gq EC Hc7.f3.f3⟩
end
end Go.Proofs.YtpdeedplgmbopaaGreatDoor
end
section
namespace Go.Proofs.YtpdeedplgmbopaaGreatDoor
open Go.RowKit
def vS {β : Type} (f : Int → β) (a : Int) (v : β) : Int → β := fun x => if x = a then v else f x
theorem iE {β : Type} (f : Int → β) (a : Int) (v : β) : vS f a v a = v := if_pos rfl
theorem tC {β : Type} (f : Int → β) {a x : Int} (v : β) (h : x ≠ a) : vS f a v x = f x := if_neg h
theorem aaT {β : Type} (f : Int → β) (a : Int) : vS f a (f a) = f := by funext x; unfold vS; split <;> simp_all
structure nY where
  L : List Int
  pt : Int
  mark : Int
  E : List (List Int)
  at_ : Nat
  place : Int
  tx : Int → Option ByteArray
  un : Int → List (List jl)
  mode : Int
  over : Bool
  last : Int
  fr : Int
  to : Int
  res : Int
  run : Bool
structure bC where
  c : nY
  hl : List qN
  base : Int
  most : Int
  qW : Int
  given : Bool
  minus : Bool
  arg : Int
  inn : Bool
  was : nY
  cls : Int
  kT : Bool
  kU : Bool
  argues : Bool
  whole : Bool
  put : List jl
def QH (hl : List qN) (k : Int) : qN := if 0 ≤ k ∧ k < hl.length then hl.getD k.toNat default else (.empty, 0)
def zS (hl : List qN) (k : Int) : ByteArray := (QH hl k).1
def jC (hl : List qN) (tx : Int → Option ByteArray) (k : Int) : ByteArray := (tx k).getD (zS hl k)
def Ed (hl : List qN) (tx : Int → Option ByteArray) (place : Int) (k : Nat) : Bool := decide ((k : Int) ≠ place) && !((jC hl tx k).toList == (zS hl k).toList)
def sD (hl : List qN) (tx : Int → Option ByteArray) (place : Int) (n : Nat) : List (Int × ByteArray) := ((List.range n).filter (Ed hl tx place)).map fun (k : Nat) => ((k : Int), jC hl tx k)
def BF (hl : List qN) (tx : Int → Option ByteArray) (place : Int) : List (Int × ByteArray) := sD hl tx place hl.length ++ (if place ≠ hl.length then [((hl.length : Int), jC hl tx hl.length)] else [])
def tH (G : List (List jl)) (inn : Bool) (put : List jl) (typed run : Bool) : Int := (G.length : Int) + if inn && !put.isEmpty && !(typed && run) then 1 else 0
namespace bC
variable (s : bC)
def here : List (List jl) := s.c.un s.c.place
def mJ (G : List (List jl)) : bC := { s with c := { s.c with un := vS s.c.un s.c.place G } }
def AU : Int := if s.inn then 0 else 1
def BG : Int := if s.inn then 1 else 0
def aZ : bC := if s.inn then s else { s with inn := true, was := s.c, cls := 0, kT := false, kU := false, argues := false, whole := true, put := [] }
def jf (on : Bool) : List (List jl) := if s.put = [] then s.here else if on then (match s.here.getLast? with | some g => s.here.dropLast ++ [g ++ s.put] | none => [s.put]) else s.here ++ [s.put]
def fM (on : Bool) : bC := if s.put = [] then s else { s.mJ (s.jf on) with put := [] }
def qX : bC := { s with given := false, minus := false, arg := -1 }
def AQ (err : Int) : Int := if s.inn then err else 1
def zn : bC := { s.qX with inn := false, c := { s.was with last := 0, fr := 0, to := 0 }, qW := IntKind.i64.wrap (s.qW + 1), put := [] }
def typed : Bool := s.cls == 3 && s.whole
def jg : bC := { (if s.argues then s else s.qX) with inn := false }
def jT : bC :=
  let t := s.jg.fM (s.typed && s.c.run)
  let c := { t.c with run := s.typed && (!s.put.isEmpty || s.c.run), last := s.cls }
  { t with c := if s.cls ≠ 2 then { c with fr := 0, to := 0 } else c }
def jZ (err : Int) : bC := if s.inn then (if err = 0 then s.jT else s.zn) else s
def sH (x : jl) : bC :=
  if x.2.1.length + x.2.2.length = 0 then s else
  if 16384 ≤ gG s.here s.put then { s.mJ [] with put := [x], c := { (s.mJ []).c with run := false } } else { s with put := s.put ++ [x] }
def kV (L : List Int) (pt mk : Int) : bC := { s with c := { s.c with L := L, pt := pt, mark := mk } }
def vT (i j : Int) (l : List Int) : Int := if s.inn then nX s.c.L i j l else 1
def qJ (i j : Int) (l : List Int) : bC := if s.inn then (s.kV (sZ s.c.L i j l) (tq s.c.L s.c.pt i j l) (wB s.c.L s.c.mark i j l)).sH (wC s.c.L i j l, pY s.c.L i j l, qc s.c.L i j l) else s
def aeh (l : List Int) : Int := s.vT s.c.pt s.c.pt l
def O4 (l : List Int) : bC := s.qJ s.c.pt s.c.pt l
def Ig (l : List Int) : Int := if s.c.over then min (s.c.pt + l.length) s.c.L.length else s.c.pt
def YW (l : List Int) : Int := s.vT s.c.pt (s.Ig l) l
def EM (l : List Int) : bC := if s.inn then (let t := s.qJ s.c.pt (s.Ig l) l; if s.YW l = 0 ∧ s.cls = 0 then { t with cls := 3 } else t) else s
def way (back : Bool) : Int := if s.c.last = 1 ∨ s.kT = true then (if back then 2 else 1) else 0
def qB (i j : Int) : Prop := i < 0 ∨ s.c.L.length < i ∨ j < i ∨ s.c.L.length < j
instance (i j : Int) : Decidable (s.qB i j) := by unfold qB; infer_instance
def cut (i j : Int) : List Int := (s.c.L.drop i.toNat).take (j.toNat - i.toNat)
def qY (i j : Int) (back : Bool) : Int × List (List Int) × Nat := Dp s.c.E s.c.at_ (s.way back) (s.cut i j)
def rP (i j : Int) (back : Bool) : Int := if s.inn then (if s.qB i j then 70 else (s.qY i j back).1) else 1
def BH (E : List (List Int)) (a : Nat) : bC := { s with c := { s.c with E := E, at_ := a } }
def sJ (i j : Int) (back : Bool) : bC := if s.rP i j back = 0 then { s.BH (s.qY i j back).2.1 (s.qY i j back).2.2 with kT := true, cls := 1 } else s
def EN (i j : Int) (back : Bool) : Int := if s.rP i j back = 0 then (s.sJ i j back).vT i j [] else s.rP i j back
def uF (i j : Int) (back : Bool) : bC := if s.rP i j back = 0 then (s.sJ i j back).qJ i j [] else s
def top : List Int := s.c.E.getD s.c.at_ []
def EO : Int := if s.inn then (if s.c.E.length = 0 then 6 else s.aeh s.top) else 1
def CG : bC :=
  if s.EO = 0 then
    let t := s.O4 s.top
    { t with kU := true, cls := 2, c := { t.c with mark := smM t.c.L t.c.mark s.c.pt, fr := s.c.pt, to := s.c.pt + s.top.length } }
  else s
def acF (n : Int) : List Int := s.c.E.getD (Hz s.c.E.length s.c.at_ n) []
def afA (n : Int) : Int := if s.inn then (if s.c.last ≠ 2 ∨ s.kU = true then 6 else if s.c.E.length = 0 then 6 else s.vT s.c.fr s.c.to (s.acF n)) else 1
def ahv (n : Int) : bC :=
  if s.afA n = 0 then
    let t := s.qJ s.c.fr s.c.to (s.acF n)
    { t with kU := true, cls := 2, c := { t.c with E := s.c.E, at_ := Hz s.c.E.length s.c.at_ n, fr := s.c.fr, to := s.c.fr + (s.acF n).length } }
  else s
def kills : List (List Int) := s.c.E.drop s.c.at_ ++ s.c.E.take s.c.at_
def Dy (x : Int) : Int := if s.inn then mvE s.c.L.length x else 1
def qK (x : Int) : bC := if s.inn then s.kV s.c.L (Yt s.c.L.length s.c.pt x) s.c.mark else s
def ag3 (x : Int) : Int := if s.inn then smE s.c.L x else 1
def ag4 (x : Int) : bC := if s.inn then s.kV s.c.L s.c.pt (smM s.c.L s.c.mark x) else s
def ag5 : Int := if s.inn then swE s.c.mark else 1
def ag6 : bC := if s.inn then s.kV s.c.L (swP s.c.pt s.c.mark) (swM s.c.pt s.c.mark) else s
def afB (b : List Int × Int × Int) (x : jl) : List Int × Int × Int := (afr b.1 x.1 x.2.1 x.2.2, afs b.1 b.2.1 x.1 x.2.1 x.2.2, afu b.1 b.2.2 x.1 x.2.1 x.2.2)
def apps (b : List Int × Int × Int) (l : List jl) : List Int × Int × Int := l.foldl afB b
def Vz (l : List jl) : bC := let b := apps (s.c.L, s.c.pt, s.c.mark) l; s.kV b.1 b.2.1 b.2.2
def Gs : bC := { s with whole := false, c := { s.c with run := false } }
def ag7 : bC := if s.inn then (let t := s.fM false; if t.here = [] then t else ((t.mJ t.here.dropLast).Vz ((t.here.getLastD []).reverse.map Jp)).Gs) else s
def YN : Int := if s.inn then (if (s.fM false).here = [] then 6 else 0) else 1
def ahw : bC := if s.inn then (let t := s.fM false; if t.here = [] then t else ((t.mJ []).Vz (t.here.flatten.reverse.map Jp)).Gs) else s
def acG (d : Int) : Int := if s.inn then (if d < 0 ∨ 9 < d then 1 else 0) else 1
def afC (d : Int) : bC := if s.acG d = 0 then { s with given := true, argues := true, arg := min (max s.arg 0 * 10 + d) 1000000 } else s
def ahx : bC := if s.inn then { s with given := true, argues := true, minus := !s.minus } else s
def Fq (n : Int) : Int := if s.inn then (if 1000000 < n ∨ n < -1000000 then 1 else 0) else 1
def Fv (n : Int) : bC := if s.Fq n = 0 then { s with given := true, argues := true, minus := decide (n < 0), arg := max n (-n) } else s
def count : Int := if s.given then (let n := if s.arg < 0 then 1 else s.arg; if s.minus then -n else n) else 1
def tJ (m : Int) : Int := if s.inn then (if m < 0 ∨ 2 < m then 1 else 0) else 1
def yh (m : Int) : bC := if s.tJ m = 0 then { s with c := { s.c with mode := m } } else s
def ag8 (b : Bool) : bC := if s.inn then { s with c := { s.c with over := b } } else s
def afD (r : Int) : Int := if s.inn then (if r < 1 ∨ 3 < r then 1 else 0) else 1
def ahy (r : Int) : bC := if s.afD r = 0 then { s with c := { s.c with res := r } } else s
def first (k : Int) : ByteArray := zS s.hl k
def stands (k : Int) : ByteArray := (s.c.tx k).getD (s.first k)
def O5 : Int := tH s.here s.inn s.put s.typed s.c.run
def saved : List (Int × ByteArray) := BF s.hl s.c.tx s.c.place
def zT : Int := if s.inn then s.was.last else s.c.last
def VA : Int := if s.inn then s.was.fr else s.c.fr
def VB : Int := if s.inn then s.was.to else s.c.to
end bC
def nY.fresh (l : List Int) (E : List (List Int)) (a : Nat) (place mode : Int) : nY := ⟨l, l.length, -1, E, a, place, fun _ => none, fun _ => [], mode, false, 0, 0, 0, 0, false⟩
def bC.start (s : bC) (hl : List qN) (base most : Int) (l : List Int) : bC := { s with c := nY.fresh l s.c.E s.c.at_ hl.length s.c.mode, hl := hl, base := base, most := most, given := false, minus := false, arg := -1 }
def bC.new (hl : List qN) (base most : Int) : bC :=
  let c := nY.fresh [] [] 0 hl.length 0
  { c := c, hl := hl, base := base, most := most, qW := 0, given := false, minus := false, arg := -1, inn := false, was := c, cls := 0, kT := false, kU := false, argues := false, whole := false, put := [] }
structure Out (s : bC) (L : List Int) (pt : Int) (G : List (List jl)) (run : Bool) : Prop where
  inn : s.inn = false
  L : s.c.L = L
  pt : s.c.pt = pt
  G : s.c.un s.c.place = G
  run : s.c.run = run
  over : s.c.over = false
structure Inn (s : bC) (L : List Int) (pt : Int) (G : List (List jl)) (run : Bool) : Prop where
  inn : s.inn = true
  L : s.c.L = L
  pt : s.c.pt = pt
  G : s.c.un s.c.place = G
  run : s.c.run = run
  over : s.c.over = false
  put : s.put = []
  cls : s.cls = 0
  whole : s.whole = true
section
variable {s : bC} {L : List Int} {pt : Int} {G : List (List jl)} {run : Bool} {r : Int}
theorem Out.begin (h : Out s L pt G run) : Inn s.aZ L pt G run ∧ s.BG = 0 := by
  unfold bC.aZ bC.BG
  rw [if_neg (by rw [h.inn]; decide), if_neg (by rw [h.inn]; decide)]
  exact ⟨⟨rfl, h.L, h.pt, h.G, h.run, h.over, rfl, rfl, rfl⟩, rfl⟩
def QI (G : List (List jl)) (run : Bool) (x : jl) : List (List jl) := if run then (match G.getLast? with | some g => G.dropLast ++ [g ++ [x]] | none => [[x]]) else G ++ [[x]]
theorem Inn.abU (h : Inn s L pt G run) (h1 : 0 ≤ pt ∧ pt ≤ L.length) (h2 : L.length < 1024) (h3 : gG G [] < 16384) :
    s.YW [r] = 0 ∧ s.EM [r] = { (s.kV (L.take pt.toNat ++ [r] ++ L.drop pt.toNat) (pt + 1) (wB L s.c.mark pt pt [r])) with put := [(pt, [], [r])], cls := 3 } := by
  have hto : s.Ig [r] = pt := by unfold bC.Ig; rw [h.over]; exact h.pt
  have hE : nX L pt pt [r] = 0 := by unfold nX; rw [if_neg (by omega), if_neg (by simp; omega)]
  have hE' : s.vT s.c.pt (s.Ig [r]) [r] = 0 := by unfold bC.vT; rw [if_pos h.inn, hto, h.pt, h.L]; exact hE
  have hP : tq L pt pt pt [r] = pt + 1 := by unfold tq fD; rw [if_pos hE, if_neg (by omega), if_pos (by omega)]; rfl
  have hD : pY L pt pt [r] = [] := by unfold pY; rw [if_pos hE]; simp
  have hI : qc L pt pt [r] = [r] := by unfold qc; rw [if_pos hE]
  have hA : wC L pt pt [r] = pt := by unfold wC; rw [if_pos hE]
  have hL : sZ L pt pt [r] = L.take pt.toNat ++ [r] ++ L.drop pt.toNat := by unfold sZ; rw [if_pos hE]
  have hS : s.qJ s.c.pt (s.Ig [r]) [r] = { (s.kV (L.take pt.toNat ++ [r] ++ L.drop pt.toNat) (pt + 1) (wB L s.c.mark pt pt [r])) with put := [(pt, [], [r])] } := by
    unfold bC.qJ
    rw [if_pos h.inn, hto, h.pt, h.L, hP, hD, hI, hA, hL]
    unfold bC.sH
    rw [if_neg (by simp), if_neg (by
      show ¬ 16384 ≤ gG (s.c.un s.c.place) s.put
      rw [h.G, h.put]; omega)]
    show _ = _
    unfold bC.kV
    simp only [h.put, List.nil_append]
  refine ⟨hE', ?_⟩
  unfold bC.EM
  rw [if_pos h.inn]
  dsimp only
  rw [if_pos ⟨hE', h.cls⟩, hS]
theorem Dz (u : bC) (h : u.inn = true) : (u.jZ 0).c.L = u.c.L := by by_cases ha : u.argues = true <;> by_cases hp : u.put = [] <;> by_cases hc : u.cls = 2 <;> simp [bC.jZ, bC.jT, bC.jg, bC.fM, bC.qX, bC.mJ, bC.jf, bC.here, iE, ha, hp, hc, h]
theorem Ee (u : bC) (h : u.inn = true) : (u.jZ 0).c.pt = u.c.pt := by by_cases ha : u.argues = true <;> by_cases hp : u.put = [] <;> by_cases hc : u.cls = 2 <;> simp [bC.jZ, bC.jT, bC.jg, bC.fM, bC.qX, bC.mJ, bC.jf, bC.here, iE, ha, hp, hc, h]
theorem WX (u : bC) (h : u.inn = true) : (u.jZ 0).c.mark = u.c.mark := by by_cases ha : u.argues = true <;> by_cases hp : u.put = [] <;> by_cases hc : u.cls = 2 <;> simp [bC.jZ, bC.jT, bC.jg, bC.fM, bC.qX, bC.mJ, bC.jf, bC.here, iE, ha, hp, hc, h]
theorem O6 (u : bC) (h : u.inn = true) : (u.jZ 0).c.E = u.c.E := by by_cases ha : u.argues = true <;> by_cases hp : u.put = [] <;> by_cases hc : u.cls = 2 <;> simp [bC.jZ, bC.jT, bC.jg, bC.fM, bC.qX, bC.mJ, bC.jf, bC.here, iE, ha, hp, hc, h]
theorem aaU (u : bC) (h : u.inn = true) : (u.jZ 0).c.at_ = u.c.at_ := by by_cases ha : u.argues = true <;> by_cases hp : u.put = [] <;> by_cases hc : u.cls = 2 <;> simp [bC.jZ, bC.jT, bC.jg, bC.fM, bC.qX, bC.mJ, bC.jf, bC.here, iE, ha, hp, hc, h]
theorem NR (u : bC) (h : u.inn = true) : (u.jZ 0).c.over = u.c.over := by by_cases ha : u.argues = true <;> by_cases hp : u.put = [] <;> by_cases hc : u.cls = 2 <;> simp [bC.jZ, bC.jT, bC.jg, bC.fM, bC.qX, bC.mJ, bC.jf, bC.here, iE, ha, hp, hc, h]
theorem AV (u : bC) (h : u.inn = true) : (u.jZ 0).inn = false := by by_cases ha : u.argues = true <;> by_cases hp : u.put = [] <;> by_cases hc : u.cls = 2 <;> simp [bC.jZ, bC.jT, bC.jg, bC.fM, bC.qX, bC.mJ, bC.jf, bC.here, iE, ha, hp, hc, h]
theorem WY (u : bC) (h : u.inn = true) : (u.jZ 0).c.last = u.cls := by by_cases ha : u.argues = true <;> by_cases hp : u.put = [] <;> by_cases hc : u.cls = 2 <;> simp [bC.jZ, bC.jT, bC.jg, bC.fM, bC.qX, bC.mJ, bC.jf, bC.here, iE, ha, hp, hc, h]
theorem QJ (u : bC) (h : u.inn = true) : (u.jZ 0).c.run = (u.typed && (!u.put.isEmpty || u.c.run)) := by by_cases ha : u.argues = true <;> by_cases hp : u.put = [] <;> by_cases hc : u.cls = 2 <;> simp [bC.jZ, bC.jT, bC.jg, bC.fM, bC.qX, bC.mJ, bC.jf, bC.here, iE, ha, hp, hc, h]
theorem VD (u : bC) (h : u.inn = true) : (u.jZ 0).c.un (u.jZ 0).c.place = u.jf (u.typed && u.c.run) := by by_cases ha : u.argues = true <;> by_cases hp : u.put = [] <;> by_cases hc : u.cls = 2 <;> simp [bC.jZ, bC.jT, bC.jg, bC.fM, bC.qX, bC.mJ, bC.jf, bC.here, iE, ha, hp, hc, h]
theorem Inn.typed (h : Inn s L pt G run) (h1 : 0 ≤ pt ∧ pt ≤ L.length) (h2 : L.length < 1024) (h3 : gG G [] < 16384) :
    Out ((s.EM [r]).jZ 0) (L.take pt.toNat ++ [r] ++ L.drop pt.toNat) (pt + 1) (QI G run (pt, [], [r])) true ∧ (s.EM [r]).AQ 0 = 0 := by
  obtain ⟨_, e⟩ := h.abU (r := r) h1 h2 h3
  have hu : (s.EM [r]).inn = true := by rw [e]; exact h.inn
  have hT : (s.EM [r]).typed = true := by rw [e]; show (((3 : Int) == 3) && s.whole) = true; rw [h.whole]; rfl
  have hp : (s.EM [r]).put = [(pt, [], [r])] := by rw [e]
  have hr : (s.EM [r]).c.run = run := by rw [e]; exact h.run
  have hh : (s.EM [r]).here = G := by rw [e]; exact h.G
  refine ⟨⟨AV _ hu, (Dz _ hu).trans (by rw [e]; rfl), (Ee _ hu).trans (by rw [e]; rfl), ?_, ?_, (NR _ hu).trans (by rw [e]; exact h.over)⟩, by unfold bC.AQ; rw [if_pos hu]⟩
  · rw [VD _ hu, hT, hr, Bool.true_and]
    unfold bC.jf QI
    rw [if_neg (by rw [hp]; simp), hp, hh] <;> rfl
  · rw [QJ _ hu, hT, hp]; rfl
def NS (s : bC) (r : Int) : bC := (s.aZ.EM [r]).jZ (s.aZ.YW [r])
theorem Out.NS (h : Out s L pt G run) (h1 : 0 ≤ pt ∧ pt ≤ L.length) (h2 : L.length < 1024) (h3 : gG G [] < 16384) :
    Out (NS s r) (L.take pt.toNat ++ [r] ++ L.drop pt.toNat) (pt + 1) (QI G run (pt, [], [r])) true := by
  unfold Go.Proofs.YtpdeedplgmbopaaGreatDoor.NS
  rw [(h.begin.1.abU (r := r) h1 h2 h3).1]
  exact (h.begin.1.typed h1 h2 h3).1
theorem WZ (hi : s.inn = true) (hL : s.c.L = L) (hpt : s.c.pt = pt) (hG : s.here = G) (ho : s.c.over = false) (hp : s.put = []) (hc : s.cls = 0) : Out (s.jZ 0) L pt G false := by
  have hT : s.typed = false := by unfold bC.typed; rw [hc]; rfl
  refine ⟨AV _ hi, (Dz _ hi).trans hL, (Ee _ hi).trans hpt, ?_, ?_, (NR _ hi).trans ho⟩
  · rw [VD _ hi]; unfold bC.jf; rw [if_pos hp]; exact hG
  · rw [QJ _ hi, hT]; rfl
theorem Inn.end_ (h : Inn s L pt G run) : Out (s.jZ 0) L pt G false := WZ h.inn h.L h.pt h.G h.over h.put h.cls
theorem Out.move (h : Out s L pt G run) (x : Int) (hx : 0 ≤ x ∧ x ≤ L.length) : Out ((s.aZ.qK x).jZ 0) L x G false := by
  have hb := h.begin.1
  refine Inn.end_ (s := s.aZ.qK x) (run := run) ?_
  unfold bC.qK
  rw [if_pos hb.inn]
  refine ⟨hb.inn, hb.L, ?_, hb.G, hb.run, hb.over, hb.put, hb.cls, hb.whole⟩
  show Yt s.aZ.c.L.length s.aZ.c.pt x = x
  unfold Yt
  rw [if_pos (by rw [hb.L]; omega)]
end
def grp (p : Int) : List Int → List jl
  | [] => []
  | r :: l => (p, [], [r]) :: grp (p + 1) l
theorem YX (p : Int) (l : List Int) (r : Int) : grp p (l ++ [r]) = grp p l ++ [(p + l.length, [], [r])] := by
  induction l generalizing p with
  | nil => simp [grp]
  | cons x l ih => simp only [List.cons_append, grp, ih, List.length_cons]; rw [show p + 1 + (l.length : Int) = p + ((l.length + 1 : Nat) : Int) from by omega]
theorem aaV (p : Int) (l : List Int) : (grp p l).length = l.length := by induction l generalizing p with
  | nil => rfl
  | cons x l ih => simp [grp, ih]
def I5 (G : List (List jl)) (p : Int) (l : List Int) : List (List jl) := if l = [] then G else G ++ [grp p l]
theorem W9 (G : List (List jl)) (p : Int) (l : List Int) : gG (I5 G p l) [] = gG G [] + l.length := by
  unfold I5 gG; split
  · rename_i h; subst h; simp
  · simp [aaV]
theorem Ud (G : List (List jl)) (p : Int) (l : List Int) (r : Int) : QI (I5 G p l) (!l.isEmpty) (p + l.length, [], [r]) = I5 G p (l ++ [r]) := by
  unfold QI I5
  rw [if_neg (show l ++ [r] ≠ [] by simp)]
  cases l with
  | nil => simp [grp]
  | cons x l => rw [if_neg (show ¬ x :: l = [] by simp)]; simp only [List.isEmpty_cons, Bool.not_false, if_true, List.getLast?_append, List.getLast?_singleton, Option.some_or, List.dropLast_concat, YX]
theorem uh (s : bC) : s.aZ.inn = true := by unfold bC.aZ; split; assumption; rfl
section
variable {s : bC} {L : List Int} {pt : Int} {G : List (List jl)} {run : Bool} {r : Int}
def KE (s : bC) (l : List Int) : bC := l.foldl NS s
theorem Out.KE (h : Out s L pt G false) (h1 : 0 ≤ pt ∧ pt ≤ L.length) (l : List Int) (h2 : L.length + l.length ≤ 1024) (h3 : gG G [] + l.length ≤ 16384) :
    Out (KE s l) (L.take pt.toNat ++ l ++ L.drop pt.toNat) (pt + l.length) (I5 G pt l) (!l.isEmpty) := by
  suffices hh : ∀ n (l : List Int), l.length = n → L.length + n ≤ 1024 → gG G [] + n ≤ 16384 → Out (Go.Proofs.YtpdeedplgmbopaaGreatDoor.KE s l) (L.take pt.toNat ++ l ++ L.drop pt.toNat) (pt + l.length) (I5 G pt l) (!l.isEmpty) from hh _ l rfl h2 h3
  intro n
  induction n with
  | zero =>
    intro l hn _ _
    obtain rfl := List.length_eq_zero_iff.1 hn
    simpa [I5, Go.Proofs.YtpdeedplgmbopaaGreatDoor.KE] using h
  | succ n ih =>
    intro l hn h2 h3
    rcases List.eq_nil_or_concat l with rfl | ⟨l, r, rfl⟩
    · cases hn
    rw [List.concat_eq_append] at hn ⊢
    have hn2 : l.length = n := by simpa using hn
    have h4 := ih l hn2 (by omega) (by omega)
    have hl : (L.take pt.toNat ++ l ++ L.drop pt.toNat).length = L.length + l.length := by simp; omega
    have h5 := h4.NS (r := r) (by rw [hl]; omega) (by rw [hl]; omega) (by rw [W9]; omega)
    have e1 : (L.take pt.toNat ++ l ++ L.drop pt.toNat).take (pt + l.length).toNat = L.take pt.toNat ++ l := by
      rw [List.take_append_of_le_length (by simp; omega), List.take_of_length_le (by simp; omega)]
    have e2 : (L.take pt.toNat ++ l ++ L.drop pt.toNat).drop (pt + l.length).toNat = L.drop pt.toNat := by
      rw [List.drop_append_of_le_length (by simp; omega), List.drop_of_length_le (by simp; omega), List.nil_append]
    rw [e1, e2, Ud] at h5
    have e3 : Go.Proofs.YtpdeedplgmbopaaGreatDoor.KE s (l ++ [r]) = Go.Proofs.YtpdeedplgmbopaaGreatDoor.NS (Go.Proofs.YtpdeedplgmbopaaGreatDoor.KE s l) r := by unfold Go.Proofs.YtpdeedplgmbopaaGreatDoor.KE; rw [List.foldl_append]; rfl
    rw [e3]
    rw [show pt + ((l ++ [r]).length : Int) = pt + l.length + 1 from by simp; omega, show (!(l ++ [r]).isEmpty) = true from by simp, ← List.append_assoc]
    exact h5
end
end Go.Proofs.YtpdeedplgmbopaaGreatDoor
end
section
namespace Go.Proofs.YtpdeedplgmbopaaGreatDoor
open Go.RowKit Go.MapKept
structure Key (α : Type) where
  mkKey ::
  d : TypeDesc
  mk : α → Value
  key : ∀ a, IsKey d (mk a)
  inj : ∀ a b, mk a = mk b → a = b
  onto : ∀ v, IsKey d v → ∃ a, mk a = v
def zo (k : IntKind) : Key Int := ⟨.int k, .int k, fun _ => rfl, fun _ _ h => by cases h; rfl, fun v h => by
  cases v <;> simp [IsKey] at h
  subst h
  exact ⟨_, rfl⟩⟩
abbrev tK : Key Int := zo .i64
abbrev Xa : Key Int := zo .i32
def ahz : Key ByteArray := ⟨.string, .string, fun _ => trivial, fun _ _ h => by cases h; rfl, fun v h => by
  cases v <;> simp [IsKey] at h
  exact ⟨_, rfl⟩⟩
section
variable {α : Type} {K : Key α} {f : α → Option Value} {es : Array MapEntry} {clock : Nat}
def EP (K : Key α) (f : α → Option Value) (es : Array MapEntry) (clock : Nat) : Prop :=
  Stamped es clock ∧ (∀ x ∈ es.toList, IsKey K.d x.key) ∧ ∀ a v, f a = some v ↔ ∃ x ∈ es.toList, x.key = K.mk a ∧ x.val = v
def gX (K : Key α) (b : Nat) (f : α → Option Value) : HP := uZ fun (x : Array MapEntry × Nat) => fact (EP K f x.1 x.2) • dW b (.map x.1 x.2)
def upd [DecidableEq α] {β : Type} (f : α → Option β) (a : α) (v : β) : α → Option β := fun x => if x = a then some v else f x
theorem EP.same (h : EP K f es clock) {x y : MapEntry} (hx : x ∈ es.toList) (hy : y ∈ es.toList) (e : x.key = y.key) : x = y := by
  have hn := h.1.2.2
  rw [List.Nodup, List.pairwise_map] at hn
  exact AX hn hx hy e
where
  AX : ∀ {l : List MapEntry}, l.Pairwise (fun x y => x.key ≠ y.key) → ∀ {x y : MapEntry}, x ∈ l → y ∈ l → x.key = y.key → x = y
    | [], _, _, _, hx, _, _ => by cases hx
    | z :: l, hp, x, y, hx, hy, e => by
      rw [List.pairwise_cons] at hp
      rcases List.mem_cons.1 hx with hx1 | hx1
      · rcases List.mem_cons.1 hy with hy1 | hy1
        · rw [hx1, hy1]
        · exact absurd (by rw [← hx1]; exact e) (hp.1 _ hy1)
      · rcases List.mem_cons.1 hy with hy1 | hy1
        · exact absurd (by rw [← hy1]; exact e.symm) (hp.1 _ hx1)
        · exact AX hp.2 hx1 hy1 e
theorem VE : ∀ {l : List MapEntry}, (l.map (·.born)).Nodup → ∀ {x y : MapEntry}, x ∈ l → y ∈ l → x.born = y.born → x = y
  | [], _, _, _, hx, _, _ => by cases hx
  | z :: l, hp, x, y, hx, hy, e => by
    rw [List.map_cons, List.nodup_cons] at hp
    rcases List.mem_cons.1 hx with hx1 | hx1
    · rcases List.mem_cons.1 hy with hy1 | hy1
      · rw [hx1, hy1]
      · exact absurd (List.mem_map.2 ⟨y, hy1, by rw [← hx1]; exact e.symm⟩) hp.1
    · rcases List.mem_cons.1 hy with hy1 | hy1
      · exact absurd (List.mem_map.2 ⟨x, hx1, by rw [← hy1]; exact e⟩) hp.1
      · exact VE hp.2 hx1 hy1 e
theorem EP.find (h : EP K f es clock) (a : α) : (Instr.findNow K.d (K.mk a) es.toList 0 = some none ∧ f a = none ∧ ∀ x ∈ es.toList, x.key ≠ K.mk a) ∨
    ∃ j e, Instr.findNow K.d (K.mk a) es.toList 0 = some (some (j, e.val)) ∧ es.toList[j]? = some e ∧ e.key = K.mk a ∧ f a = some e.val := by
  rcases findNow_spec (K.key a) es.toList 0 h.2.1 with ⟨h1, h2⟩ | ⟨j, e, h1, h2, h3⟩
  · refine .inl ⟨h1, ?_, h2⟩
    cases hf : f a with
    | none => rfl
    | some v =>
      obtain ⟨x, hx, hk, _⟩ := (h.2.2 a v).1 hf
      exact absurd hk (h2 x hx)
  · refine .inr ⟨j, e, by simpa using h1, h2, h3, (h.2.2 a e.val).2 ⟨e, List.mem_of_getElem? h2, h3, rfl⟩⟩
theorem QK (K : Key α) : EP K (fun _ => none) #[] 0 := ⟨stamped_empty 0, by simp, by simp⟩
end
section
variable {α : Type} {K : Key α} {f : α → Option Value} {es : Array MapEntry} {clock : Nat} {P : Program} {L : List (Nat × Value)} {w w0 : World} {ty : TypeId} {x y z : Operand} {F : HP} {b it n : Nat} {a : α} {S : List α}
theorem V.map (H : V w0 w (gX K b f • F)) : ∃ es clock, EP K f es clock ∧ V w0 w (dW b (.map es clock) • F) := by
  obtain ⟨⟨es, clock⟩, H⟩ := H.nN
  obtain ⟨h, H⟩ := H.flat.fact
  exact ⟨es, clock, h, H⟩
theorem V.O7 (h : EP K f es clock) (H : V w0 w (dW b (.map es clock) • F)) : V w0 w (gX K b f • F) := V.jv (es, clock) (V.deep (V.lJ h H))
theorem QL {t kt et : TypeId} {zv : Value} (ok : Bool) (h : EP K f es clock) (hb : w.heap[b]? = some (.map es clock)) (ht : P.underlying t = some (.map kt et)) (hk : P.underlying kt = some K.d) (hz : (zeroValue et).run P w = .ok zv w) :
    (Instr.lookup t (.map (some b)) (K.mk a) ok).run P w = .ok (if ok then .tuple #[(f a).getD zv, .bool (f a).isSome] else (f a).getD zv) w := by
  rcases h.find a with ⟨h1, h2, _⟩ | ⟨j, e, h1, h2, h3, h4⟩
  · simp [Instr.lookup, run_underlying ht, MapKept.run_getObj_map hb, MapKept.run_checkKey hk (K.key a), MapKept.run_findKey hk h1, hz, Result.andThen, h2]
  · simp [Instr.lookup, run_underlying ht, MapKept.run_getObj_map hb, MapKept.run_checkKey hk (K.key a), MapKept.run_findKey hk h1, Result.andThen, h4]
theorem QM {t kt et : TypeId} {zv : Value} (H : V w0 w (gX K b f • F)) (ht : P.underlying t = some (.map kt et)) (hk : P.underlying kt = some K.d) (hz : ∀ w, (zeroValue et).run P w = .ok zv w)
    (hx : ev L x = some (.map (some b))) (hy : ev L y = some (K.mk a)) : Val P L (.lookup t x y false) ty w ((f a).getD zv) w := fun ρ hρ _ _ _ _ => by
  obtain ⟨es, clock, h, H⟩ := H.map
  simp only [execOp, hρ _ _ hx, hρ _ _ hy, Sem.run_bind]
  rw [QL false h H.get.2 ht hk (hz w)]
  rfl
theorem DC {t kt et : TypeId} {zv : Value} (H : V w0 w (gX K b f • F)) (ht : P.underlying t = some (.map kt et)) (hk : P.underlying kt = some K.d) (hz : ∀ w, (zeroValue et).run P w = .ok zv w)
    (hx : ev L x = some (.map (some b))) (hy : ev L y = some (K.mk a)) : Val P L (.lookup t x y true) ty w (.tuple #[(f a).getD zv, .bool (f a).isSome]) w := fun ρ hρ _ _ _ _ => by
  obtain ⟨es, clock, h, H⟩ := H.map
  simp only [execOp, hρ _ _ hx, hρ _ _ hy, Sem.run_bind]
  rw [QL true h H.get.2 ht hk (hz w)]
  rfl
theorem kP {t : TypeId} (K : Key α) (H : V w0 w F) : wH P L (.makeMap t none) ty w fun v w' => ∃ b, v = .map (some b) ∧ V w0 w' (gX K b (fun _ => none) • F) := by
  refine wz (v := .map (some w.heap.size)) (w' := w.alloc (.map #[] 0)) ?_ ⟨_, rfl, V.O7 (QK K) (H.alloc _)⟩
  intro ρ hρ d pos oM g
  simp only [execOp, Sem.run_bind, Option.map_none]
  rfl
theorem QN {o : Obj} {b : Nat} (h : w.heap[b]? = some o) (o' : Obj) : ({ w with heap := w.heap.setIfInBounds b o' } : World).heap[b]? = some o' ∧ ∀ k, k ≠ b → ({ w with heap := w.heap.setIfInBounds b o' } : World).heap[k]? = w.heap[k]? := by
  have hlt := lt_of_block h
  exact ⟨by simp [hlt], fun k hk => by simp [Ne.symm hk]⟩
theorem V.setB {o : Obj} (H : V w0 w (dW b o • F)) (o' : Obj) : V w0 (ChangeMaps.setBlock w b o') (dW b o' • F) :=
  V.turn (w := w) (w' := ChangeMaps.setBlock w b o') H rfl rfl rfl (by simp [ChangeMaps.setBlock]) (QN H.get.2 o').1 fun k hk _ => (QN H.get.2 o').2 k hk
theorem xw [DecidableEq α] {t kt et : TypeId} {v : Value} (H : V w0 w (gX K b f • F)) (ht : P.underlying t = some (.map kt et)) (hk : P.underlying kt = some K.d)
    (hx : ev L x = some (.map (some b))) (hy : ev L y = some (K.mk a)) (hz : ev L z = some v) : wH P L (.mapUpdate t x y z) ty w fun _ w' => V w0 w' (gX K b (upd f a v) • F) := by
  obtain ⟨es, clock, h, H⟩ := H.map
  have hb := H.get.2
  rcases h.find a with ⟨h1, h2, h3⟩ | ⟨j, e, h1, h2, h3, h4⟩
  · have hrun : (Instr.mapUpdate t (.map (some b)) (K.mk a) v).run P w = .ok () (ChangeMaps.setBlock w b (.map (es.push { key := K.mk a, val := v, born := clock }) (clock + 1))) := by
      simp [ChangeMaps.setBlock, Instr.mapUpdate, run_underlying ht, MapKept.run_getObj_map hb, MapKept.run_checkKey hk (K.key a), MapKept.run_findKey hk h1, MapKept.run_setObj_map _ hb, Result.andThen]
    refine JL (w' := ChangeMaps.setBlock w b (.map (es.push { key := K.mk a, val := v, born := clock }) (clock + 1))) (fun ρ hρ d pos oM g => ?_) (V.O7 (es := es.push { key := K.mk a, val := v, born := clock }) (clock := clock + 1) ⟨stamped_push h.1 h3, ?_, ?_⟩ (H.setB _))
    · simp only [execOp, hρ _ _ hx, hρ _ _ hy, hρ _ _ hz, Sem.run_bind]
      rw [hrun]; rfl
    · intro q hq
      simp only [Array.toList_push, List.mem_append, List.mem_singleton] at hq
      rcases hq with hq | rfl
      · exact h.2.1 q hq
      · exact K.key a
    · intro c u
      simp only [Array.toList_push, List.mem_append, List.mem_singleton, upd]
      by_cases hc : c = a
      · subst hc
        rw [if_pos rfl]
        constructor
        · intro hu; cases hu; exact ⟨_, .inr rfl, rfl, rfl⟩
        · rintro ⟨q, hq | rfl, hqk, YZ⟩
          · exact absurd hqk (h3 q hq)
          · rw [← YZ]
      · rw [if_neg hc, h.2.2 c u]
        constructor
        · rintro ⟨q, hq, hqk, YZ⟩; exact ⟨q, .inl hq, hqk, YZ⟩
        · rintro ⟨q, hq | rfl, hqk, YZ⟩
          · exact ⟨q, hq, hqk, YZ⟩
          · exact absurd (K.inj _ _ hqk).symm hc
  · have hj : es[j]? = some e := by simpa using h2
    have hrun : (Instr.mapUpdate t (.map (some b)) (K.mk a) v).run P w = .ok () (ChangeMaps.setBlock w b (.map (es.modify j fun e => { e with key := K.mk a, val := v }) clock)) := by
      simp [ChangeMaps.setBlock, Instr.mapUpdate, run_underlying ht, MapKept.run_getObj_map hb, MapKept.run_checkKey hk (K.key a), MapKept.run_findKey hk h1, hj, h3, MapKept.run_keyThatStays (K.key a), MapKept.run_setObj_map _ hb, Result.andThen]
    have hkey : ∀ e', es[j]? = some e' → ({ e' with key := K.mk a, val := v } : MapEntry).key = e'.key := fun e' he' => by rw [hj] at he'; cases he'; exact h3.symm
    have hst : Stamped (es.modify j fun e => { e with key := K.mk a, val := v }) clock := stamped_modify h.1 _ _ (fun _ _ => rfl) (fun e' _ he' => hkey e' he')
    have hmem : ∀ q, q ∈ (es.modify j fun e => { e with key := K.mk a, val := v }).toList ↔ (q = { e with key := K.mk a, val := v } ∨ q ∈ es.toList ∧ q.key ≠ K.mk a) := by
      intro q
      have hee : e ∈ es.toList := List.mem_of_getElem? h2
      constructor
      · intro hq
        obtain ⟨i, hi⟩ := List.getElem?_of_mem hq
        rw [Array.getElem?_toList, Array.getElem?_modify] at hi
        by_cases hij : j = i
        · subst hij
          rw [if_pos rfl, hj] at hi
          exact .inl (by simpa using hi.symm)
        · rw [if_neg hij] at hi
          have hqm : q ∈ es.toList := Array.mem_toList_iff.2 (Array.mem_of_getElem? hi)
          refine .inr ⟨hqm, fun hqk => ?_⟩
          have he : q = e := h.same hqm hee (hqk.trans h3.symm)
          subst he
          have hn := h.1.2.1
          have h5 : (es.toList.map (·.born))[i]? = some q.born := by rw [List.getElem?_map, Array.getElem?_toList, hi]; rfl
          have h6 : (es.toList.map (·.born))[j]? = some q.born := by rw [List.getElem?_map, h2]; rfl
          have hlt : i < (es.toList.map (·.born)).length := (List.getElem?_eq_some_iff.1 h5).1
          have hlt2 : j < (es.toList.map (·.born)).length := (List.getElem?_eq_some_iff.1 h6).1
          exact hij ((List.getElem?_inj hlt2 hn).1 (h6.trans h5.symm))
      · rintro (rfl | ⟨hq, hqk⟩)
        · apply List.mem_of_getElem? (i := j)
          rw [Array.getElem?_toList, Array.getElem?_modify, if_pos rfl, hj]; rfl
        · obtain ⟨i, hi⟩ := List.getElem?_of_mem hq
          have hij : j ≠ i := by
            rintro rfl
            rw [h2] at hi; cases hi
            exact hqk h3
          apply List.mem_of_getElem? (i := i)
          rw [Array.getElem?_toList, Array.getElem?_modify, if_neg hij]
          rwa [Array.getElem?_toList] at hi
    refine JL (w' := ChangeMaps.setBlock w b (.map (es.modify j fun e => { e with key := K.mk a, val := v }) clock)) (fun ρ hρ d pos oM g => ?_) (V.O7 (es := es.modify j fun e => { e with key := K.mk a, val := v }) (clock := clock) ⟨hst, isKey_modify h.2.1 _ _ hkey, ?_⟩ (H.setB _))
    · simp only [execOp, hρ _ _ hx, hρ _ _ hy, hρ _ _ hz, Sem.run_bind]
      rw [hrun]; rfl
    · intro c u
      simp only [hmem, upd]
      by_cases hc : c = a
      · subst hc
        rw [if_pos rfl]
        constructor
        · intro hu; cases hu; exact ⟨_, .inl rfl, rfl, rfl⟩
        · rintro ⟨q, rfl | ⟨hq, hqn⟩, hqk, YZ⟩
          · rw [← YZ]
          · exact absurd hqk hqn
      · rw [if_neg hc, h.2.2 c u]
        constructor
        · rintro ⟨q, hq, hqk, YZ⟩
          exact ⟨q, .inr ⟨hq, fun hqa => hc (K.inj _ _ (hqk.symm.trans hqa))⟩, hqk, YZ⟩
        · rintro ⟨q, rfl | ⟨hq, hqn⟩, hqk, YZ⟩
          · exact absurd (K.inj _ _ hqk).symm hc
          · exact ⟨q, hq, hqk, YZ⟩
def acH (K : Key α) (f : α → Option Value) (es : Array MapEntry) (clock : Nat) (seen : Array Nat) (S : List α) (n : Nat) : Prop :=
  EP K f es clock ∧ (∃ xs : List MapEntry, (∀ x ∈ xs, x ∈ es.toList) ∧ seen.toList = xs.map (·.born) ∧ xs.map (·.key) = S.map K.mk) ∧ (leftOf es seen).size = n
def ER (K : Key α) (b it : Nat) (f : α → Option Value) (S : List α) (n : Nat) : HP := uZ fun (x : Array MapEntry × Nat × Array Nat) => fact (acH K f x.1 x.2.1 x.2.2 S n) • dW it (.mapIter (some b) x.2.1 x.2.2 x.2.1) • dW b (.map x.1 x.2.1)
theorem V.Y0 (H : V w0 w (ER K b it f S n • F)) : ∃ es clock seen, acH K f es clock seen S n ∧ V w0 w (dW it (.mapIter (some b) clock seen clock) • dW b (.map es clock) • F) := by
  obtain ⟨⟨es, clock, seen⟩, H⟩ := H.nN
  obtain ⟨h, H⟩ := H.flat.fact
  exact ⟨es, clock, seen, h, H.flat⟩
theorem V.KF {seen : Array Nat} (h : acH K f es clock seen S n) (H : V w0 w (dW it (.mapIter (some b) clock seen clock) • dW b (.map es clock) • F)) : V w0 w (ER K b it f S n • F) :=
  V.jv (es, clock, seen) (V.deep (V.lJ h (H.of_eq (by ac_rfl))))
theorem V.Ih (H : V w0 w (ER K b it f S n • F)) : V w0 w (gX K b f • F) := by
  obtain ⟨es, clock, seen, h, H⟩ := H.Y0
  exact V.O7 h.1 H.right
theorem DF {t kt et : TypeId} (H : V w0 w (gX K b f • F)) (ht : P.underlying t = some (.map kt et)) (hx : ev L x = some (.map (some b))) :
    wH P L (.range t x) ty w fun v w' => ∃ it n, v = .pointer (some ⟨it, 0, none⟩) ∧ V w0 w' (ER K b it f [] n • F) := by
  obtain ⟨es, clock, h, H⟩ := H.map
  refine wz (v := .pointer (some ⟨w.heap.size, 0, none⟩)) (w' := w.alloc (.mapIter (some b) clock #[] clock)) ?_ ⟨_, _, rfl, V.KF ⟨h, ⟨[], by simp, rfl, rfl⟩, rfl⟩ (H.alloc _)⟩
  intro ρ hρ d pos oM g
  simp only [execOp, hρ _ _ hx, Sem.run_bind]
  rw [run_range_map w t kt et b es clock ht H.get.2]
  rfl
def nxV (K : Key α) : Option (α × Value) → Value
  | some (a, u) => .tuple #[.bool true, K.mk a, u]
  | none => .tuple #[.bool false]
def afE (f : α → Option Value) (S : List α) (n : Nat) (S' : List α) (n' : Nat) : Option (α × Value) → Prop
  | some (a, u) => f a = some u ∧ a ∉ S ∧ n' < n ∧ S' = S ++ [a]
  | none => S' = S ∧ n' = n ∧ ∀ a u, f a = some u → a ∈ S
theorem aaW {es : Array MapEntry} {seen : Array Nat} {e : MapEntry} (he : e ∈ (leftOf es seen).toList) : (leftOf es (seen.push e.born)).size < (leftOf es seen).size := by
  unfold leftOf at *
  rw [Array.toList_filter, List.mem_filter] at he
  have e1 : ∀ q : MapEntry → Bool, (es.filter q).size = (es.toList.filter q).length := fun q => by rw [← Array.toList_filter, Array.length_toList]
  rw [e1, e1]
  refine filter_lt _ _ (fun x hx => ?_) e he.2 ?_ es.toList he.1
  · simp only [Bool.not_eq_true', Array.contains_push, Bool.or_eq_false_iff] at hx ⊢
    exact hx.1
  · simp
theorem Fz (H : V w0 w (ER K b it f S n • F)) (hx : ev L x = some (.pointer (some ⟨it, 0, none⟩))) :
    wH P L (.next x false) ty w fun v w' => ∃ o S' n', v = nxV K o ∧ afE f S n S' n' o ∧ V w0 w' (ER K b it f S' n' • F) := by
  obtain ⟨es, clock, seen, ⟨hm, ⟨xs, hxs, hse, hS⟩, hn⟩, H⟩ := H.Y0
  have hr := H.get.2
  have hb := H.swap.get.2
  rcases run_next_at (P := P) w ty it b clock clock seen es clock hr hb hm.1.1 (Nat.le_refl _) with ⟨h0, hrun⟩ | ⟨e, he, w1, hw1, hrun⟩
  · refine wz (v := nxV K none) (w' := w) (fun ρ hρ d pos oM g => ?_) ⟨none, S, n, rfl, ⟨rfl, rfl, fun a u ha => ?_⟩, V.KF ⟨hm, ⟨xs, hxs, hse, hS⟩, hn⟩ H⟩
    · simp only [execOp, hρ _ _ hx, Sem.run_bind]
      rw [hrun]; rfl
    · obtain ⟨y, hy, hyk, _⟩ := (hm.2.2 a u).1 ha
      have hys : seen.contains y.born = true := by
        cases hc : seen.contains y.born with
        | true => rfl
        | false =>
          have hyl : y ∈ (leftOf es seen).toList := by unfold leftOf; rw [Array.toList_filter, List.mem_filter]; exact ⟨hy, by rw [hc]; rfl⟩
          have := List.length_pos_of_mem hyl
          rw [Array.length_toList] at this
          omega
      have aei : y.born ∈ seen.toList := by simpa using hys
      rw [hse] at aei
      obtain ⟨q, hq, hqb⟩ := List.mem_map.1 aei
      have hqy : q = y := VE hm.1.2.1 (hxs q hq) hy hqb
      subst hqy
      have : K.mk a ∈ S.map K.mk := by rw [← hS]; exact List.mem_map.2 ⟨q, hq, hyk⟩
      obtain ⟨c, hc, hce⟩ := List.mem_map.1 this
      rw [← K.inj _ _ hce]; exact hc
  · have hel : e ∈ es.toList ∧ seen.contains e.born = false := by
      have := he
      unfold leftOf at this
      rw [Array.toList_filter, List.mem_filter] at this
      exact ⟨this.1, by simpa using this.2⟩
    obtain ⟨a, ha⟩ := K.onto e.key (hm.2.1 e hel.1)
    have hfa : f a = some e.val := (hm.2.2 a e.val).2 ⟨e, hel.1, ha.symm, rfl⟩
    have hns : a ∉ S := fun hs => by
      have : K.mk a ∈ S.map K.mk := List.mem_map.2 ⟨a, hs, rfl⟩
      rw [← hS] at this
      obtain ⟨q, hq, hqk⟩ := List.mem_map.1 this
      have hqe : q = e := hm.same (hxs q hq) hel.1 (hqk.trans ha)
      subst hqe
      have h9 : q.born ∈ seen.toList := by rw [hse]; exact List.mem_map.2 ⟨q, hq, rfl⟩
      have h8 : seen.contains q.born = true := by simpa using h9
      rw [hel.2] at h8; cases h8
    have hval : Val P L (.next x false) ty w (nxV K (some (a, e.val))) (ChangeMaps.setBlock w1 it (.mapIter (some b) clock (seen.push e.born) clock)) := fun ρ hρ d pos oM g => by
      simp only [execOp, hρ _ _ hx, Sem.run_bind]
      rw [hrun]
      simp only [nxV, ha]
      rfl
    have hheap : w1.heap = w.heap := by rcases hw1 with rfl | rfl <;> rfl
    have hr1 : w1.heap[it]? = some (.mapIter (some b) clock seen clock) := by rw [hheap]; exact hr
    refine wz hval ⟨some (a, e.val), S ++ [a], (leftOf es (seen.push e.born)).size, rfl, ⟨hfa, hns, by rw [← hn]; exact aaW he, rfl⟩, V.KF (seen := seen.push e.born) ⟨hm, ⟨xs ++ [e], ?_, ?_, ?_⟩, rfl⟩ (V.setB (w := w1) (o := .mapIter (some b) clock seen clock) ?_ _)⟩
    · intro q hq
      rcases List.mem_append.1 hq with hq | hq
      · exact hxs q hq
      · rw [List.mem_singleton.1 hq]; exact hel.1
    · rw [Array.toList_push, hse, List.map_append]; rfl
    · rw [List.map_append, List.map_append, hS]; simp [ha]
    · rcases hw1 with rfl | rfl
      · exact H
      · exact H.drew
theorem Y1 {o : Option (α × Value)} (hx : ev L x = some (nxV K o)) : Val P L (.extract x 0) ty w (.bool o.isSome) w := by
  cases o with
  | none => exact oh hx rfl
  | some p => obtain ⟨a, u⟩ := p; exact oh hx rfl
theorem O8 {u : Value} (H : V w0 w (ER K b it f (S ++ [a]) n • F)) (hf : f a = some u) (hx : ev L x = some (.pointer (some ⟨it, 0, none⟩))) : Val P L (.entry x) ty w (.tuple #[K.mk a, u]) w := by
  obtain ⟨es, clock, seen, ⟨hm, ⟨xs, hxs, hse, hS⟩, hn⟩, H⟩ := H.Y0
  intro ρ hρ d pos oM g
  have hne : xs ≠ [] := by
    rintro rfl
    have := congrArg List.length hS
    simp at this
  obtain ⟨ys, e, rfl⟩ : ∃ ys e, xs = ys ++ [e] := ⟨xs.dropLast, xs.getLast hne, (List.dropLast_concat_getLast hne).symm⟩
  have he : e ∈ es.toList := hxs e (by simp)
  have hk : e.key = K.mk a := by
    rw [List.map_append, List.map_append] at hS
    have := List.append_inj_right' hS rfl
    simpa using this
  have hv : e.val = u := by
    have h9 := (hm.2.2 a e.val).2 ⟨e, he, hk, rfl⟩
    rw [hf] at h9; cases h9; rfl
  have hsp : seen = (ys.map (·.born)).toArray.push e.born := by
    apply Array.ext'
    rw [hse]; simp
  have hr := H.get.2
  rw [hsp] at hr
  simp only [execOp, hρ _ _ hx, Sem.run_bind]
  rw [run_entry_at w it b clock _ es clock e hr H.swap.get.2 he hm.1.2.1, hk, hv]
  rfl
end
end Go.Proofs.YtpdeedplgmbopaaGreatDoor
end
