import Derived.Test.YtpdeedplgmbopaaGreatDoorZ4
import Derived.Test.YtpdeedplgmbopaaGreatDoorZ8
import Derived.Test.YtpdeedplgmbopaaGreatDoorZ7
import Derived.Test.YtpdeedplgmbopaaGreatDoorZ6
import Derived.Test.YtpdeedplgmbopaaGreatDoorZ3
import Derived.Maps.RangeRun
set_option linter.unusedSimpArgs false
set_option linter.unusedVariables false
/- Texts of mine, joined, their names in short: UList7 Grp0 Hist EdM ETyM ETyM2 Map. -/
section
namespace Go.Proofs.YtpdeedplgmbopaaGreatDoor
open Go.RowKit
open _root_.Go.Proofs.Tryz
theorem Xf {G : List (List jm)} {k : Nat} (hk : k < G.length) : G.take (k + 1) = G.take k ++ [G.getD k []] := by
  rw [List.take_succ_eq_append_getElem hk, List.getD_eq_getElem?_getD, List.getElem?_eq_getElem hk]
  rfl
theorem JA {G : List (List jm)} {g : List jm} (h : g ∈ G) : g.length ≤ (G.map List.length).sum := by
  induction G with
  | nil => cases h
  | cons x G ih =>
    rw [List.map_cons, List.sum_cons]
    rcases List.mem_cons.1 h with rfl | h
    · omega
    · have := ih h; omega
theorem QT {es : List fA} {l : List jm} (h : es.map fA.says = l) (hl : ∀ e ∈ l, EB e) : ∀ k, k < es.length → EB (es.getD k default).says := fun k hk =>
  hl _ (by rw [← h]; exact List.mem_map_of_mem (yX hk))
section
variable {w0 w : World} {F : HP} {p : Nat} {G : List (List jm)} {N : List jm} {op : Int}
theorem KE (H : V w0 w (jo p G N op • F)) : iE prog 130 #[.pointer (some ⟨p, 0, none⟩)] w fun v w' => ∃ q, v = .pointer (some ⟨q, 0, none⟩) ∧ V w0 w' (jo q G N op • jo p G N op • F) := by
 refine iZ func130 ntmps130 ?_
 refine jQ O (aN (bQ O (dS O func158 (lQ H) ?_)))
 rintro _ _ ⟨rfl, rfl⟩
 refine iJ (qo (gG (aN ?_)))
 obtain ⟨Dc, AA, oW, nY, lX, wL, vk, Ib, Ic, MK, rH⟩ := (H).zu
 have hLn : nY.length ≤ 16384 := by omega
 have hBn := QT vk lX.2.2.2.2.2
 refine aC (nG O O (Z (dM bM O sizeOf235 O O (rH).get.2) (kD (iC (l := [_, _, _, _, _]) rH zeroValue235 O) ?_)))
 rintro _ w3 ⟨b3, rfl, H3⟩
 refine aJ (dB 0 (l' := [_, _, _, _, _]) (us := [_, _, _, _, _]) H3 sizeOf235 O O O (aZ (by first | rfl | exact Rd.one ((H3.f3).aS)) (aZ (by first | rfl | exact Rd.one ((H3.f5).aS)) (aG (aG (aG bU))))) O O) ?_
 rintro _ w4 H4
 refine rG O (dK O (bJ 0 bM O dJ O (bJ 1 bV O bP O (fM aW O (H4.f2).get.2 O (dS O func173 (DI H4.f6.f6 hBn hLn) ?_)))))
 rintro u5 w5 ⟨fs5, afJ, H5⟩
 obtain ⟨es1, rfl⟩ : ∃ q, q = fs5 := ⟨_, rfl⟩
 have hes1 := afJ
 refine bJ 0 bM O dJ O (bJ 0 bV O gq O (aJ (st5 0 H5.f5 gq) ?_))
 rintro _ w6 H6
 refine bJ 0 bM O dJ O (bJ 1 bV O bP O (aJ (fP 1 (l' := [_, _, _, _, _]) H6 bP O O (by first | rfl | exact Rd.one ((H6.f2).aS)) O O) ?_))
 rintro _ w7 H7
 refine qQ (bQ O (dK O (bJ 0 bM O dJ O (bJ 0 bV O gq O (fM bK O (H7.f6).get.2 O (Z (kK ((H7.f7).aS) bK O) (bT O (iJ (aY ?_)))))))))
 obtain ⟨acb, acd, aer, -⟩ := ((H7.f7).aS).form
 subst aer
 refine gW [(3, _), (25, _), (26, _)] (fun (k : Nat) => [(27, .int .i64 (k : Int))]) (fun (k : Nat) W => k ≤ oW.length ∧ ∃ gu, ∃ hs : List (Value × List fA), hs.map (fun g => g.2.map fA.says) = G.take k ∧ V w0 W (dW b3 (.cells #[gu, u5, .int .i64 op, .int .i64 (gV G N : Nat), .bool true] 235 (0, 0)) • Row 80 1 gu hs.length (hs.map (·.1)) • pY hs • Row 189 3 u5 es1.length (es1.flatMap fA.enc) • lW es1 • dW p (.cells #[(.slice acb (oW.length) acd), AA, .int .i64 op, .int .i64 (gV G N : Nat), .bool true] 235 (0, 0)) • Row 80 1 (.slice acb (oW.length) acd) oW.length (oW.map (·.1)) • pY oW • Row 189 3 AA nY.length (nY.flatMap fA.enc) • lW nY • F)) (fun (k : Nat) => oW.length - k) (0) uK lU ⟨by omega, _, [], O, ((H7.f5.f5.f8.f8.f8.f6.f8.f8).Gu none).aa9.f5⟩ ?_
 rintro k w9 ⟨hk, gu, hs, Y8, HL⟩
 dsimp only [List.cons_append, List.nil_append]
 refine iR (Z (fZ O O) (qQ (bD O (fun h1 => ?_) (fun h1 => ?_))))
 ·(try simp only [aA] at h1)
  refine gG (aN (aY (iR ?_)))
  obtain ⟨ag2, ag3, rfl⟩ := Rd.pos ((HL.f7).aS) (by omega)
  refine Z (dP bK bP O O (by omega)) ?_
  refine Z (fK (dA aW O) O (by first | exact Rd.ni ((HL.f7).aS) (by omega) | exact Rd.yc ((HL.f7).aS) (by omega) | exact Rd.yx ((HL.f7).aS) (by omega))) ?_
  have hkl : k < oW.length := by omega
  rw [show (oW.map (·.1)).getD k undef = (oW.getD k default).1 from by simp [List.getD_eq_getElem?_getD, hkl]]
  obtain ⟨gl, zQ, hg⟩ : ∃ gl zQ, oW.getD k default = (gl, zQ) := ⟨_, _, rfl⟩
  rw [hg]
  have Y9 := HL.f8
  have Za := Y9.Jz hkl hg
  have hge : zQ.map fA.says = G.getD k [] := by
   rw [← wL]
   have h9 : (oW.map (fun g => g.2.map fA.says)).getD k [] = (oW.getD k default).2.map fA.says := by simp [List.getD_eq_getElem?_getD, hkl]
   rw [h9, hg]
  have hgm : G.getD k [] ∈ G := yX (by omega)
  have hBg := QT hge (lX.2.2.2.2.1 _ hgm)
  have hLg : zQ.length ≤ 16384 := by
   have h8 := lX.2.1
   unfold gV at h8
   have h7 := congrArg List.length hge
   rw [List.length_map] at h7
   have h6 := JA hgm
   omega
  have hhl := congrArg List.length Y8
  rw [List.length_map, List.length_take] at hhl
  refine fG O ?_
  have ace := Za.drew
  have KF := V.kp (ace.f11.f11.f11.f11.f11.f11.f11.f11.f11.f11.f11)
  refine yH [2] KF O (gU 0 O KF 0 bM O dJ O (gU 1 O KF 0 bV O gq O (jO 2 O KF (fun W hW => jV bK O ((Kp.h hW).f3).get.2 O) (iQ 3 O KF O (mZ 4 O (xq O func173 (AP ace hBg hLg)) ?_)))))
  rintro u12 w12 ⟨Y6, aca, vZ⟩
  obtain ⟨es2, rfl⟩ : ∃ q, q = Y6 := ⟨_, rfl⟩
  have hes2 := aca
  have Kv := V.kp (vZ.f13.f13.f13.f13.f13.f13.f13.f13.f13.f13.f13.f13.f13)
  refine eF Kv (fun W hW => (Kp.h hW).right.right.f11.f11.f11.f11.f11.f11.f11.f11.f11.f11.f11) ?_
  refine mZ 5 O (lq (vs := [_]) vZ bK bP nJ O O O (by decide) (aZ (by first | rfl | exact Rd.one ((vZ).aS)) bU)) ?_
  rintro l13 Qh wo
  have yB := V.kp (wo.f14.f14.f14.f14.f14.f14.f14.f14.f14.f14.f14.f14.f14.f14)
  refine eF yB (fun W hW => (Kp.h hW).right.f13.f13.f13.f13.f13.f13.f13.f13.f13.f13.f13.f13.f13) ?_
  refine mZ 6 O (iy wo.f7 bK IY O O O ((wo).aS) (aZ (by first | rfl | exact Rd.one ((wo.f2).aS)) bU) (by omega) (by omega)) ?_
  rintro l14 OQ AZ
  have acZ := AZ.f2.right
  have yC := V.kp (acZ.f13.f13.f13.f13.f13.f13.f13.f13.f13.f13.f13.f13.f13)
  refine iG yC (by kernel_rfl) ?_
  refine gU 7 O yC 0 bM O dJ O (gU 8 O yC 0 bV O gq O ?_)
  refine gB 9 O (by kernel_rfl) (fP 0 (l' := [_, _, _, _, _]) acZ.f6 gq O O (by first | rfl | exact Rd.one ((acZ).aS)) O O) ?_
  rintro _ w16 vw
  have DJ := V.kp (vw.f13.f13.f13.f13.f13.f13.f13.f13.f13.f13.f13.f13.f13)
  refine iG DJ (by kernel_rfl) ?_
  have X := V.rU (es := es2) (vw.f5.right.f12.f12.f7.f12.f12.f12.f12.f8.f12.f10.f12.f12).deep
  have HN := (V.uT X.swap).aa9.f3
  have hnew : (hs ++ [(u12, es2)]).map (fun g => g.2.map fA.says) = G.take (k + 1) := by rw [List.map_append, Y8, Xf (by omega), ← hge, ← hes2]; rfl
  refine qV (aK (aX (aC (Z (fJ O O (by omega)) (bT O (bW ?_))))))
  refine dV (k + 1) ?_ ?_ ?_ ?_
  ·exact lU
  ·exact uK
  ·(try dsimp only)
   first | done | exact ⟨by omega, _, _, hnew, HN⟩
  ·(try dsimp only); omega
 ·(try simp only [aA] at h1)
  refine dO (aO (aO (bI (aX (jM O (dL results130 O ?_))))))
  rw [List.take_of_length_le (by omega)] at Y8
  have X := V.oM (gs := hs) (now := es1) lX Y8 (hes1.trans vk) rfl (HL.f10.f10.f10.f10.f10.f10.f10.f10.f10.f10)
  have Y := V.oM lX wL vk rfl X.f6.f6.f6.f6.f6
  exact ⟨_, O, Y.swap⟩
end
end Go.Proofs.YtpdeedplgmbopaaGreatDoor
end
section
namespace Go.Proofs.YtpdeedplgmbopaaGreatDoor
open Go.RowKit
def FD (G : List (List jm)) (N : List jm) : List (List jm) := (oH G N).reverse
def Pg (N : List jm) : List (List jm) := if N = [] then [] else [N]
theorem Zb (N : List jm) : (Pg N).length ≤ 1 := by unfold Pg; split <;> simp
theorem abe (G : List (List jm)) (N : List jm) : FD G N = Pg N ++ G.reverse := by
  unfold FD Pg oH; split <;> simp
end Go.Proofs.YtpdeedplgmbopaaGreatDoor
end
section
namespace Go.Proofs.YtpdeedplgmbopaaGreatDoor
open Go.RowKit
open _root_.Go.Proofs.Tryz
abbrev sN := ByteArray × Int
def CW (x : sN) : List Value := [.string x.1, .int .i64 x.2]
theorem NZ (x : sN) : (CW x).length = 2 := rfl
def afK (x : sN) : Prop := x.1.size ≤ 16384 ∧ 0 ≤ x.2
def HOk (hl : List sN) (base most : Int) : Prop := hl.length ≤ 4096 ∧ 1 ≤ base ∧ base ≤ 4611686018427387904 ∧ (hl.length : Int) ≤ most ∧ most ≤ 4096 ∧ ∀ x ∈ hl, afK x
def iY (p : Nat) (hl : List sN) (base most : Int) : HP := wE fun (v : Value) => fact (HOk hl base most) • dW p (.cells #[v, .int .i64 base, .int .i64 most] 153 (0, 0)) • Row 218 2 v hl.length (hl.flatMap CW)
section
variable {P : Program} {L : List (Nat × Value)} {w0 w : World} {F : HP} {ty : TypeId} {p : Nat} {hl : List sN} {base most : Int} {v : Value}
theorem KG {t e sz : Nat} {z : Value} (H : V w0 w F) (ht : P.underlying t = some (.slice e)) (hs : ∀ w, (sizeOf e).run P w = .ok sz w) (hz : ∀ w, (zeroValue e).run P w = .ok z w) :
    xk P L (.buildSlice t 0 #[]) ty w fun v w' => V w0 w' (Row e sz v 0 [] • F) := by
  refine wB (v := .slice (some ⟨w.heap.size, 0, none⟩) 0 0) (w' := w.alloc (.cells #[] e)) ?_ ?_
  · intro ρ hρ d pos pK g
    simp only [execOp, Instr.buildSlice, Sem.run_bind, run_underlying ht, Result.andThen_ok, hs]
    have h0 : Array.map (fun (_ : Nat) => (default : Value)) (Array.range 0) = #[] := Array.eq_empty_of_size_eq_zero (by simp)
    simp [Instr.fill, newRow, h0]
  · exact (H.alloc _).right.jk _
theorem V.hist (H : V w0 w (iY p hl base most • F)) : ∃ v, HOk hl base most ∧ V w0 w (dW p (.cells #[v, .int .i64 base, .int .i64 most] 153 (0, 0)) • Row 218 2 v hl.length (hl.flatMap CW) • F) := by
  obtain ⟨v, H⟩ := H.nX
  obtain ⟨h, H⟩ := H.flat.fact
  exact ⟨v, h, H.flat⟩
theorem V.Gx (h : HOk hl base most) (H : V w0 w (dW p (.cells #[v, .int .i64 base, .int .i64 most] 153 (0, 0)) • Row 218 2 v hl.length (hl.flatMap CW) • F)) : V w0 w (iY p hl base most • F) :=
  V.jw v (V.deep (V.lK h H.deep))
theorem VL {hl : List sN} : ∀ x ∈ hl.flatMap CW, x.oneCell' = true := by
  intro x hx
  obtain ⟨e, _, hx⟩ := List.mem_flatMap.1 hx
  simp [CW] at hx
  rcases hx with rfl | rfl <;> rfl
theorem abf : (prog.info? 218).map (fun i => (i.zero, i.size, i.bytes)) = some (some (.agg #[.string .empty, .int .i64 0]), 2, 24) := by kernel_rfl
theorem Ph (H : V w0 w F) (hr : WI w0 F 2 v hl.length (hl.flatMap CW)) (hb : hl.length ≤ 1099511627776) :
    iE prog 150 #[v] w fun v' w' => V w0 w' (Row 218 2 v' hl.length (hl.flatMap CW) • F) := by
  obtain ⟨hlen, a, c, rfl, h1, h2, h3⟩ := hr w H
  refine iZ func150 ntmps150 ?_
  refine jQ O (aN (bQ O (Z (Dj gX O O) ?_)))
  refine jB O (fun h1 => ?_) (fun h1 => ?_)
  · (try simp only [aA] at h1)
    refine jM O (aB (dL results150 O ?_))
    obtain rfl : a = none := by simpa using h1
    obtain rfl : hl = [] := by
      cases hl with
      | nil => rfl
      | cons x l => obtain ⟨b, o, e, _⟩ := h3 (by simp); cases e
    exact H.jk none
  · (try simp only [aA] at h1)
    refine gG (iR (kD (KG H gX sizeOf218 zeroValue218) ?_))
    rintro _ w1 H1
    refine bT O (kD (iy H1 gX abf O O O (hr.under _ H1) VL (by omega) (by omega)) ?_)
    rintro _ w2 H2
    refine fB O (dL results150 O ?_)
    exact H2.of_eq (by rw [Nat.zero_add, List.nil_append])
theorem ES (H : V w0 w (iY p hl base most • F)) : iE prog 149 #[.pointer (some ⟨p, 0, none⟩)] w fun v w' => v = .bool false ∧ w = w' := by
 refine iZ func149 ntmps149 ?_
 refine jQ O (aN ?_)
 obtain ⟨Uj, EJ, Df⟩ := (H).hist
 refine aC (bT O (Z (jy kX O O) (jG O (fun h1 => ?_) (fun h1 => ?_))))
 ·(try simp only [aA] at h1)
  exfalso; first | contradiction | omega
 ·(try simp only [aA] at h1)
  refine bg (bT O (bg (dK O (bg (bJ 0 lY O sizeOf151 O (bg (bJ 1 lZ O sizeOf2 O (bg (fM underlying2 O (Df).get.2 O (bg (Z (dX O O) (iH O O (fB O (dL results149 O ?_))))))))))))))
  exact ⟨by rw [show (base == 0) = false from by rw [beq_eq_false_iff_ne]; have := EJ.2.1; omega], O⟩
theorem Pj {n : Int} (H : V w0 w F) (hn : 0 ≤ n ∧ n ≤ 4096) : iE prog 55 #[.int .i64 n] w fun v w' => ∃ p, v = .tuple #[.pointer (some ⟨p, 0, none⟩), .int .i64 0] ∧ V w0 w' (iY p [] 1 n • F) := by
  refine iZ func55 ntmps55 ?_
  refine iR (iK O (uZ O (bQ O (Z (fZ O O) (jG O (fun h1 => ?_) (fun h1 => ?_))))))
  · (try simp only [aA] at h1)
    exfalso; first | contradiction | omega
  · (try simp only [aA] at h1)
    refine bg (bT O (bg (Z (dY O O) (iH O O (jB O (fun h2 => ?_) (fun h2 => ?_))))))
    · (try simp only [aA] at h2)
      exfalso; first | contradiction | omega
    · (try simp only [aA] at h2)
      refine gG (bQ O (Z (mJ (pl := #[(0, 1), (1, 1), (2, 1)]) (#[_, _, _]) lZ zeroValue151 (fun w => by kernel_rfl) O (O)) (Z (mJ (pl := #[(0, 3)]) (#[_, _, _]) lY zeroValue153 (fun w => by kernel_rfl) O (O)) (kD (jL (l := [_, _, _]) H O O) ?_))))
      rintro _ w1 ⟨b1, rfl, H1⟩
      refine iK O (fB O (NR results55 O O ?_))
      exact ⟨_, O, V.Gx (v := .slice none 0 0) ⟨by simp, by decide, by decide, by simp; omega, by omega, by simp⟩ ((H1.jk none).swap)⟩
theorem qG (H : V w0 w (iY p hl base most • F)) : iE prog 117 #[.pointer (some ⟨p, 0, none⟩)] w fun v w' => v = .int .i64 hl.length ∧ V w0 w' (iY p hl base most • F) := by
 refine iZ func117 ntmps117 ?_
 refine jQ O (aN (bQ O (dS O func149 (ES H) ?_)))
 rintro _ _ ⟨rfl, rfl⟩
 refine iJ (qo (gG (aN ?_)))
 obtain ⟨Uj, EJ, Df⟩ := (H).hist
 refine aC (nG O O (bJ 0 lY O sizeOf151 O (bJ 0 lZ O sizeOf149 O (fM gX O (Df).get.2 O (Z (kK ((Df.f2).aS) gX O) (fB O (dL results117 O ?_)))))))
 have QL := Df.f2.f2
 have Qi := V.Gx EJ QL
 exact ⟨O, Qi⟩
theorem vT (H : V w0 w (iY p hl base most • F)) : iE prog 109 #[.pointer (some ⟨p, 0, none⟩)] w fun v w' => ∃ q, v = .pointer (some ⟨q, 0, none⟩) ∧ V w0 w' (iY q hl base most • iY p hl base most • F) := by
 refine iZ func109 ntmps109 ?_
 refine jQ O (aN (bQ O (dS O func149 (ES H) ?_)))
 rintro _ _ ⟨rfl, rfl⟩
 refine iJ (qo (gG (aN ?_)))
 obtain ⟨Uj, EJ, Df⟩ := (H).hist
 have hcl := EJ.1
 have EI := Df.drew
 have jf := V.kp (EI.f2.f2)
 refine yH [4, 10, 15] jf O (iQ 0 O jf O (jU 1 O jf O (gU 2 O jf 0 lY O sizeOf151 O (gU 3 O jf 0 lZ O sizeOf149 O (jO 4 O jf (fun W hW => jV gX O ((Kp.h hW)).get.2 O) (iQ 6 O jf O (jU 7 O jf O (gU 8 O jf 0 lY O sizeOf151 O (gU 9 O jf 1 lZ O sizeOf2 O (jO 10 O jf (fun W hW => jV underlying2 O ((Kp.h hW)).get.2 O) (iQ 11 O jf O (jU 12 O jf O (gU 13 O jf 0 lY O sizeOf151 O (gU 14 O jf 2 lZ O ay O (jO 15 O jf (fun W hW => jV aH O ((Kp.h hW)).get.2 O) (mZ 5 O (xq O func150 (Ph EI (fun W HW => (HW.f2).aS) (by omega))) ?_))))))))))))))))
 rintro u3 w3 H3
 have Az := V.kp (H3.f3.f3.f3)
 refine eF Az (fun W hW => (Kp.h hW).right.f2.f2) ?_
 obtain ⟨au3, cu3, eu3, -⟩ := ((H3).aS).form
 subst eu3
 refine jC 16 O Az (fun _ => mJ (pl := #[(0, 1), (1, 1), (2, 1)]) (#[_, _, _]) lZ zeroValue151 (fun w => by kernel_rfl) O (O)) (jC 17 O Az (fun _ => mJ (pl := #[(0, 3)]) (#[_, _, _]) lY zeroValue153 (fun w => by kernel_rfl) O (O)) (mZ 18 O (jL (l := [_, _, _]) H3 O O) ?_))
 rintro _ w4 ⟨b4, rfl, H4⟩
 have zq := V.kp (H4.f4.f4.f4.f4)
 refine iG zq (by kernel_rfl) ?_
 refine jC 19 O zq (fun _ => dR O) (qV (aX (nI (dL results109 O ?_))))
 have Xg := H4.f4.f4
 have Xh := V.Gx EJ Xg
 exact ⟨_, O, V.Gx EJ Xh.f3.f3⟩
end
end Go.Proofs.YtpdeedplgmbopaaGreatDoor
end
section
namespace Go.Proofs.YtpdeedplgmbopaaGreatDoor
open Go.RowKit
def xI {β : Type} (f : Int → β) (a : Int) (v : β) : Int → β := fun x => if x = a then v else f x
theorem iL {β : Type} (f : Int → β) (a : Int) (v : β) : xI f a v a = v := if_pos rfl
theorem vU {β : Type} (f : Int → β) {a x : Int} (v : β) (h : x ≠ a) : xI f a v x = f x := if_neg h
theorem abg {β : Type} (f : Int → β) (a : Int) : xI f a (f a) = f := by funext x; unfold xI; split <;> simp_all
structure oC where
  L : List Int
  pt : Int
  mark : Int
  E : List (List Int)
  at_ : Nat
  place : Int
  tx : Int → Option ByteArray
  un : Int → List (List jm)
  mode : Int
  over : Bool
  last : Int
  fr : Int
  to : Int
  res : Int
  run : Bool
structure bn where
  c : oC
  hl : List sN
  base : Int
  most : Int
  um : Int
  given : Bool
  minus : Bool
  arg : Int
  inn : Bool
  was : oC
  cls : Int
  killed : Bool
  kU : Bool
  argues : Bool
  whole : Bool
  put : List jm
def QU (hl : List sN) (k : Int) : sN := if 0 ≤ k ∧ k < hl.length then hl.getD k.toNat default else (.empty, 0)
def BO (hl : List sN) (k : Int) : ByteArray := (QU hl k).1
def kL (hl : List sN) (tx : Int → Option ByteArray) (k : Int) : ByteArray := (tx k).getD (BO hl k)
def En (hl : List sN) (tx : Int → Option ByteArray) (place : Int) (k : Nat) : Bool := decide ((k : Int) ≠ place) && !((kL hl tx k).toList == (BO hl k).toList)
def sO (hl : List sN) (tx : Int → Option ByteArray) (place : Int) (n : Nat) : List (Int × ByteArray) := ((List.range n).filter (En hl tx place)).map fun (k : Nat) => ((k : Int), kL hl tx k)
def BP (hl : List sN) (tx : Int → Option ByteArray) (place : Int) : List (Int × ByteArray) := sO hl tx place hl.length ++ (if place ≠ hl.length then [((hl.length : Int), kL hl tx hl.length)] else [])
def uo (G : List (List jm)) (inn : Bool) (put : List jm) (typed run : Bool) : Int := (G.length : Int) + if inn && !put.isEmpty && !(typed && run) then 1 else 0
namespace bn
variable (s : bn)
def here : List (List jm) := s.c.un s.c.place
def nC (G : List (List jm)) : bn := { s with c := { s.c with un := xI s.c.un s.c.place G } }
def Bg : Int := if s.inn then 0 else 1
def BQ : Int := if s.inn then 1 else 0
def aV : bn := if s.inn then s else { s with inn := true, was := s.c, cls := 0, killed := false, kU := false, argues := false, whole := true, put := [] }
def jg (on : Bool) : List (List jm) := if s.put = [] then s.here else if on then (match s.here.getLast? with | some g => s.here.dropLast ++ [g ++ s.put] | none => [s.put]) else s.here ++ [s.put]
def fU (on : Bool) : bn := if s.put = [] then s else { s.nC (s.jg on) with put := [] }
def ru : bn := { s with given := false, minus := false, arg := -1 }
def AO (err : Int) : Int := if s.inn then err else 1
def zy : bn := { s.ru with inn := false, c := { s.was with last := 0, fr := 0, to := 0 }, um := IntKind.i64.wrap (s.um + 1), put := [] }
def typed : Bool := s.cls == 3 && s.whole
def jh : bn := { (if s.argues then s else s.ru) with inn := false }
def jX : bn :=
  let t := s.jh.fU (s.typed && s.c.run)
  let c := { t.c with run := s.typed && (!s.put.isEmpty || s.c.run), last := s.cls }
  { t with c := if s.cls ≠ 2 then { c with fr := 0, to := 0 } else c }
def jY (err : Int) : bn := if s.inn then (if err = 0 then s.jX else s.zy) else s
def rC (x : jm) : bn :=
  if x.2.1.length + x.2.2.length = 0 then s else
  if 16384 ≤ gV s.here s.put then { s.nC [] with put := [x], c := { (s.nC []).c with run := false } } else { s with put := s.put ++ [x] }
def jT (L : List Int) (pt mk : Int) : bn := { s with c := { s.c with L := L, pt := pt, mark := mk } }
def qH (i j : Int) (l : List Int) : Int := if s.inn then nO s.c.L i j l else 1
def nR (i j : Int) (l : List Int) : bn := if s.inn then (s.jT (qX s.c.L i j l) (qY s.c.L s.c.pt i j l) (vP s.c.L s.c.mark i j l)).rC (wC s.c.L i j l, qy s.c.L i j l, qB s.c.L i j l) else s
def Pm (l : List Int) : Int := s.qH s.c.pt s.c.pt l
def wz (l : List Int) : bn := s.nR s.c.pt s.c.pt l
def Ig (l : List Int) : Int := if s.c.over then min (s.c.pt + l.length) s.c.L.length else s.c.pt
def Zc (l : List Int) : Int := s.qH s.c.pt (s.Ig l) l
def ET (l : List Int) : bn := if s.inn then (let t := s.nR s.c.pt (s.Ig l) l; if s.Zc l = 0 ∧ s.cls = 0 then { t with cls := 3 } else t) else s
def way (back : Bool) : Int := if s.c.last = 1 ∨ s.killed = true then (if back then 2 else 1) else 0
def qI (i j : Int) : Prop := i < 0 ∨ s.c.L.length < i ∨ j < i ∨ s.c.L.length < j
instance (i j : Int) : Decidable (s.qI i j) := by unfold qI; infer_instance
def cut (i j : Int) : List Int := (s.c.L.drop i.toNat).take (j.toNat - i.toNat)
def rD (i j : Int) (back : Bool) : Int × List (List Int) × Nat := Dx s.c.E s.c.at_ (s.way back) (s.cut i j)
def rV (i j : Int) (back : Bool) : Int := if s.inn then (if s.qI i j then 70 else (s.rD i j back).1) else 1
def Gy (E : List (List Int)) (a : Nat) : bn := { s with c := { s.c with E := E, at_ := a } }
def rE (i j : Int) (back : Bool) : bn := if s.rV i j back = 0 then { s.Gy (s.rD i j back).2.1 (s.rD i j back).2.2 with killed := true, cls := 1 } else s
def EU (i j : Int) (back : Bool) : Int := if s.rV i j back = 0 then (s.rE i j back).qH i j [] else s.rV i j back
def oD (i j : Int) (back : Bool) : bn := if s.rV i j back = 0 then (s.rE i j back).nR i j [] else s
def top : List Int := s.c.E.getD s.c.at_ []
def rF : Int := if s.inn then (if s.c.E.length = 0 then 6 else s.Pm s.top) else 1
def jE : bn :=
  if s.rF = 0 then
    let t := s.wz s.top
    { t with kU := true, cls := 2, c := { t.c with mark := smM t.c.L t.c.mark s.c.pt, fr := s.c.pt, to := s.c.pt + s.top.length } }
  else s
def ac0 (n : Int) : List Int := s.c.E.getD (EG s.c.E.length s.c.at_ n) []
def afL (n : Int) : Int := if s.inn then (if s.c.last ≠ 2 ∨ s.kU = true then 6 else if s.c.E.length = 0 then 6 else s.qH s.c.fr s.c.to (s.ac0 n)) else 1
def ahn (n : Int) : bn :=
  if s.afL n = 0 then
    let t := s.nR s.c.fr s.c.to (s.ac0 n)
    { t with kU := true, cls := 2, c := { t.c with E := s.c.E, at_ := EG s.c.E.length s.c.at_ n, fr := s.c.fr, to := s.c.fr + (s.ac0 n).length } }
  else s
def kills : List (List Int) := s.c.E.drop s.c.at_ ++ s.c.E.take s.c.at_
def sU (x : Int) : Int := if s.inn then mvE s.c.L.length x else 1
def lC (x : Int) : bn := if s.inn then s.jT s.c.L (Yj s.c.L.length s.c.pt x) s.c.mark else s
def ag4 (x : Int) : Int := if s.inn then smE s.c.L x else 1
def ag5 (x : Int) : bn := if s.inn then s.jT s.c.L s.c.pt (smM s.c.L s.c.mark x) else s
def ag6 : Int := if s.inn then swE s.c.mark else 1
def ag7 : bn := if s.inn then s.jT s.c.L (swP s.c.pt s.c.mark) (swM s.c.pt s.c.mark) else s
def afM (b : List Int × Int × Int) (x : jm) : List Int × Int × Int := (afD b.1 x.1 x.2.1 x.2.2, afE b.1 b.2.1 x.1 x.2.1 x.2.2, afF b.1 b.2.2 x.1 x.2.1 x.2.2)
def apps (b : List Int × Int × Int) (l : List jm) : List Int × Int × Int := l.foldl afM b
def acf (l : List jm) : bn := let b := apps (s.c.L, s.c.pt, s.c.mark) l; s.jT b.1 b.2.1 b.2.2
def VN : bn := { s with whole := false, c := { s.c with run := false } }
def ag8 : bn := if s.inn then (let t := s.fU false; if t.here = [] then t else ((t.nC t.here.dropLast).acf ((t.here.getLastD []).reverse.map KA)).VN) else s
def Y3 : Int := if s.inn then (if (s.fU false).here = [] then 6 else 0) else 1
def aho : bn := if s.inn then (let t := s.fU false; if t.here = [] then t else ((t.nC []).acf (t.here.flatten.reverse.map KA)).VN) else s
def ac1 (d : Int) : Int := if s.inn then (if d < 0 ∨ 9 < d then 1 else 0) else 1
def afN (d : Int) : bn := if s.ac1 d = 0 then { s with given := true, argues := true, arg := min (max s.arg 0 * 10 + d) 1000000 } else s
def ahp : bn := if s.inn then { s with given := true, argues := true, minus := !s.minus } else s
def Gz (n : Int) : Int := if s.inn then (if 1000000 < n ∨ n < -1000000 then 1 else 0) else 1
def FH (n : Int) : bn := if s.Gz n = 0 then { s with given := true, argues := true, minus := decide (n < 0), arg := max n (-n) } else s
def count : Int := if s.given then (let n := if s.arg < 0 then 1 else s.arg; if s.minus then -n else n) else 1
def uq (m : Int) : Int := if s.inn then (if m < 0 ∨ 2 < m then 1 else 0) else 1
def yD (m : Int) : bn := if s.uq m = 0 then { s with c := { s.c with mode := m } } else s
def ag9 (b : Bool) : bn := if s.inn then { s with c := { s.c with over := b } } else s
def afO (r : Int) : Int := if s.inn then (if r < 1 ∨ 3 < r then 1 else 0) else 1
def ahq (r : Int) : bn := if s.afO r = 0 then { s with c := { s.c with res := r } } else s
def first (k : Int) : ByteArray := BO s.hl k
def stands (k : Int) : ByteArray := (s.c.tx k).getD (s.first k)
def Zd : Int := uo s.here s.inn s.put s.typed s.c.run
def saved : List (Int × ByteArray) := BP s.hl s.c.tx s.c.place
def CX : Int := if s.inn then s.was.last else s.c.last
def Yk : Int := if s.inn then s.was.fr else s.c.fr
def Yl : Int := if s.inn then s.was.to else s.c.to
end bn
def oC.fresh (l : List Int) (E : List (List Int)) (a : Nat) (place mode : Int) : oC := ⟨l, l.length, -1, E, a, place, fun _ => none, fun _ => [], mode, false, 0, 0, 0, 0, false⟩
def bn.start (s : bn) (hl : List sN) (base most : Int) (l : List Int) : bn := { s with c := oC.fresh l s.c.E s.c.at_ hl.length s.c.mode, hl := hl, base := base, most := most, given := false, minus := false, arg := -1 }
def bn.new (hl : List sN) (base most : Int) : bn :=
  let c := oC.fresh [] [] 0 hl.length 0
  { c := c, hl := hl, base := base, most := most, um := 0, given := false, minus := false, arg := -1, inn := false, was := c, cls := 0, killed := false, kU := false, argues := false, whole := false, put := [] }
structure Out (s : bn) (L : List Int) (pt : Int) (G : List (List jm)) (run : Bool) : Prop where
  inn : s.inn = false
  L : s.c.L = L
  pt : s.c.pt = pt
  G : s.c.un s.c.place = G
  run : s.c.run = run
  over : s.c.over = false
structure Inn (s : bn) (L : List Int) (pt : Int) (G : List (List jm)) (run : Bool) : Prop where
  inn : s.inn = true
  L : s.c.L = L
  pt : s.c.pt = pt
  G : s.c.un s.c.place = G
  run : s.c.run = run
  over : s.c.over = false
  put : s.put = []
  cls : s.cls = 0
  whole : s.whole = true
section
variable {s : bn} {L : List Int} {pt : Int} {G : List (List jm)} {run : Bool} {r : Int}
theorem Out.begin (h : Out s L pt G run) : Inn s.aV L pt G run ∧ s.BQ = 0 := by
  unfold bn.aV bn.BQ
  rw [if_neg (by rw [h.inn]; decide), if_neg (by rw [h.inn]; decide)]
  exact ⟨⟨rfl, h.L, h.pt, h.G, h.run, h.over, rfl, rfl, rfl⟩, rfl⟩
def QV (G : List (List jm)) (run : Bool) (x : jm) : List (List jm) := if run then (match G.getLast? with | some g => G.dropLast ++ [g ++ [x]] | none => [[x]]) else G ++ [[x]]
theorem Inn.acg (h : Inn s L pt G run) (h1 : 0 ≤ pt ∧ pt ≤ L.length) (h2 : L.length < 1024) (h3 : gV G [] < 16384) :
    s.Zc [r] = 0 ∧ s.ET [r] = { (s.jT (L.take pt.toNat ++ [r] ++ L.drop pt.toNat) (pt + 1) (vP L s.c.mark pt pt [r])) with put := [(pt, [], [r])], cls := 3 } := by
  have hto : s.Ig [r] = pt := by unfold bn.Ig; rw [h.over]; exact h.pt
  have hE : nO L pt pt [r] = 0 := by unfold nO; rw [if_neg (by omega), if_neg (by simp; omega)]
  have hE' : s.qH s.c.pt (s.Ig [r]) [r] = 0 := by unfold bn.qH; rw [if_pos h.inn, hto, h.pt, h.L]; exact hE
  have hP : qY L pt pt pt [r] = pt + 1 := by unfold qY fE; rw [if_pos hE, if_neg (by omega), if_pos (by omega)]; rfl
  have hD : qy L pt pt [r] = [] := by unfold qy; rw [if_pos hE]; simp
  have hI : qB L pt pt [r] = [r] := by unfold qB; rw [if_pos hE]
  have hA : wC L pt pt [r] = pt := by unfold wC; rw [if_pos hE]
  have hL : qX L pt pt [r] = L.take pt.toNat ++ [r] ++ L.drop pt.toNat := by unfold qX; rw [if_pos hE]
  have hS : s.nR s.c.pt (s.Ig [r]) [r] = { (s.jT (L.take pt.toNat ++ [r] ++ L.drop pt.toNat) (pt + 1) (vP L s.c.mark pt pt [r])) with put := [(pt, [], [r])] } := by
    unfold bn.nR
    rw [if_pos h.inn, hto, h.pt, h.L, hP, hD, hI, hA, hL]
    unfold bn.rC
    rw [if_neg (by simp), if_neg (by
      show ¬ 16384 ≤ gV (s.c.un s.c.place) s.put
      rw [h.G, h.put]; omega)]
    show _ = _
    unfold bn.jT
    simp only [h.put, List.nil_append]
  refine ⟨hE', ?_⟩
  unfold bn.ET
  rw [if_pos h.inn]
  dsimp only
  rw [if_pos ⟨hE', h.cls⟩, hS]
theorem zA (u : bn) (h : u.inn = true) : (u.jY 0).c.L = u.c.L := by by_cases ha : u.argues = true <;> by_cases hp : u.put = [] <;> by_cases hc : u.cls = 2 <;> simp [bn.jY, bn.jX, bn.jh, bn.fU, bn.ru, bn.nC, bn.jg, bn.here, iL, ha, hp, hc, h]
theorem Af (u : bn) (h : u.inn = true) : (u.jY 0).c.pt = u.c.pt := by by_cases ha : u.argues = true <;> by_cases hp : u.put = [] <;> by_cases hc : u.cls = 2 <;> simp [bn.jY, bn.jX, bn.jh, bn.fU, bn.ru, bn.nC, bn.jg, bn.here, iL, ha, hp, hc, h]
theorem Xi (u : bn) (h : u.inn = true) : (u.jY 0).c.mark = u.c.mark := by by_cases ha : u.argues = true <;> by_cases hp : u.put = [] <;> by_cases hc : u.cls = 2 <;> simp [bn.jY, bn.jX, bn.jh, bn.fU, bn.ru, bn.nC, bn.jg, bn.here, iL, ha, hp, hc, h]
theorem Ih (u : bn) (h : u.inn = true) : (u.jY 0).c.E = u.c.E := by by_cases ha : u.argues = true <;> by_cases hp : u.put = [] <;> by_cases hc : u.cls = 2 <;> simp [bn.jY, bn.jX, bn.jh, bn.fU, bn.ru, bn.nC, bn.jg, bn.here, iL, ha, hp, hc, h]
theorem Pn (u : bn) (h : u.inn = true) : (u.jY 0).c.at_ = u.c.at_ := by by_cases ha : u.argues = true <;> by_cases hp : u.put = [] <;> by_cases hc : u.cls = 2 <;> simp [bn.jY, bn.jX, bn.jh, bn.fU, bn.ru, bn.nC, bn.jg, bn.here, iL, ha, hp, hc, h]
theorem N7 (u : bn) (h : u.inn = true) : (u.jY 0).c.over = u.c.over := by by_cases ha : u.argues = true <;> by_cases hp : u.put = [] <;> by_cases hc : u.cls = 2 <;> simp [bn.jY, bn.jX, bn.jh, bn.fU, bn.ru, bn.nC, bn.jg, bn.here, iL, ha, hp, hc, h]
theorem xJ (u : bn) (h : u.inn = true) : (u.jY 0).inn = false := by by_cases ha : u.argues = true <;> by_cases hp : u.put = [] <;> by_cases hc : u.cls = 2 <;> simp [bn.jY, bn.jX, bn.jh, bn.fU, bn.ru, bn.nC, bn.jg, bn.here, iL, ha, hp, hc, h]
theorem Xj (u : bn) (h : u.inn = true) : (u.jY 0).c.last = u.cls := by by_cases ha : u.argues = true <;> by_cases hp : u.put = [] <;> by_cases hc : u.cls = 2 <;> simp [bn.jY, bn.jX, bn.jh, bn.fU, bn.ru, bn.nC, bn.jg, bn.here, iL, ha, hp, hc, h]
theorem QW (u : bn) (h : u.inn = true) : (u.jY 0).c.run = (u.typed && (!u.put.isEmpty || u.c.run)) := by by_cases ha : u.argues = true <;> by_cases hp : u.put = [] <;> by_cases hc : u.cls = 2 <;> simp [bn.jY, bn.jX, bn.jh, bn.fU, bn.ru, bn.nC, bn.jg, bn.here, iL, ha, hp, hc, h]
theorem VO (u : bn) (h : u.inn = true) : (u.jY 0).c.un (u.jY 0).c.place = u.jg (u.typed && u.c.run) := by by_cases ha : u.argues = true <;> by_cases hp : u.put = [] <;> by_cases hc : u.cls = 2 <;> simp [bn.jY, bn.jX, bn.jh, bn.fU, bn.ru, bn.nC, bn.jg, bn.here, iL, ha, hp, hc, h]
theorem Inn.typed (h : Inn s L pt G run) (h1 : 0 ≤ pt ∧ pt ≤ L.length) (h2 : L.length < 1024) (h3 : gV G [] < 16384) :
    Out ((s.ET [r]).jY 0) (L.take pt.toNat ++ [r] ++ L.drop pt.toNat) (pt + 1) (QV G run (pt, [], [r])) true ∧ (s.ET [r]).AO 0 = 0 := by
  obtain ⟨_, e⟩ := h.acg (r := r) h1 h2 h3
  have hu : (s.ET [r]).inn = true := by rw [e]; exact h.inn
  have hT : (s.ET [r]).typed = true := by rw [e]; show (((3 : Int) == 3) && s.whole) = true; rw [h.whole]; rfl
  have hp : (s.ET [r]).put = [(pt, [], [r])] := by rw [e]
  have hr : (s.ET [r]).c.run = run := by rw [e]; exact h.run
  have hh : (s.ET [r]).here = G := by rw [e]; exact h.G
  refine ⟨⟨xJ _ hu, (zA _ hu).trans (by rw [e]; rfl), (Af _ hu).trans (by rw [e]; rfl), ?_, ?_, (N7 _ hu).trans (by rw [e]; exact h.over)⟩, by unfold bn.AO; rw [if_pos hu]⟩
  · rw [VO _ hu, hT, hr, Bool.true_and]
    unfold bn.jg QV
    rw [if_neg (by rw [hp]; simp), hp, hh] <;> rfl
  · rw [QW _ hu, hT, hp]; rfl
def N8 (s : bn) (r : Int) : bn := (s.aV.ET [r]).jY (s.aV.Zc [r])
theorem Out.N8 (h : Out s L pt G run) (h1 : 0 ≤ pt ∧ pt ≤ L.length) (h2 : L.length < 1024) (h3 : gV G [] < 16384) :
    Out (N8 s r) (L.take pt.toNat ++ [r] ++ L.drop pt.toNat) (pt + 1) (QV G run (pt, [], [r])) true := by
  unfold Go.Proofs.YtpdeedplgmbopaaGreatDoor.N8
  rw [(h.begin.1.acg (r := r) h1 h2 h3).1]
  exact (h.begin.1.typed h1 h2 h3).1
theorem Xk (hi : s.inn = true) (hL : s.c.L = L) (hpt : s.c.pt = pt) (hG : s.here = G) (ho : s.c.over = false) (hp : s.put = []) (hc : s.cls = 0) : Out (s.jY 0) L pt G false := by
  have hT : s.typed = false := by unfold bn.typed; rw [hc]; rfl
  refine ⟨xJ _ hi, (zA _ hi).trans hL, (Af _ hi).trans hpt, ?_, ?_, (N7 _ hi).trans ho⟩
  · rw [VO _ hi]; unfold bn.jg; rw [if_pos hp]; exact hG
  · rw [QW _ hi, hT]; rfl
theorem Inn.end_ (h : Inn s L pt G run) : Out (s.jY 0) L pt G false := Xk h.inn h.L h.pt h.G h.over h.put h.cls
theorem Out.move (h : Out s L pt G run) (x : Int) (hx : 0 ≤ x ∧ x ≤ L.length) : Out ((s.aV.lC x).jY 0) L x G false := by
  have hb := h.begin.1
  refine Inn.end_ (s := s.aV.lC x) (run := run) ?_
  unfold bn.lC
  rw [if_pos hb.inn]
  refine ⟨hb.inn, hb.L, ?_, hb.G, hb.run, hb.over, hb.put, hb.cls, hb.whole⟩
  show Yj s.aV.c.L.length s.aV.c.pt x = x
  unfold Yj
  rw [if_pos (by rw [hb.L]; omega)]
end
def grp (p : Int) : List Int → List jm
  | [] => []
  | r :: l => (p, [], [r]) :: grp (p + 1) l
theorem Ze (p : Int) (l : List Int) (r : Int) : grp p (l ++ [r]) = grp p l ++ [(p + l.length, [], [r])] := by
  induction l generalizing p with
  | nil => simp [grp]
  | cons x l ih => simp only [List.cons_append, grp, ih, List.length_cons]; rw [show p + 1 + (l.length : Int) = p + ((l.length + 1 : Nat) : Int) from by omega]
theorem abh (p : Int) (l : List Int) : (grp p l).length = l.length := by induction l generalizing p with
  | nil => rfl
  | cons x l ih => simp [grp, ih]
def I4 (G : List (List jm)) (p : Int) (l : List Int) : List (List jm) := if l = [] then G else G ++ [grp p l]
theorem Xl (G : List (List jm)) (p : Int) (l : List Int) : gV (I4 G p l) [] = gV G [] + l.length := by
  unfold I4 gV; split
  · rename_i h; subst h; simp
  · simp [abh]
theorem Uk (G : List (List jm)) (p : Int) (l : List Int) (r : Int) : QV (I4 G p l) (!l.isEmpty) (p + l.length, [], [r]) = I4 G p (l ++ [r]) := by
  unfold QV I4
  rw [if_neg (show l ++ [r] ≠ [] by simp)]
  cases l with
  | nil => simp [grp]
  | cons x l => rw [if_neg (show ¬ x :: l = [] by simp)]; simp only [List.isEmpty_cons, Bool.not_false, if_true, List.getLast?_append, List.getLast?_singleton, Option.some_or, List.dropLast_concat, Ze]
theorem mW (s : bn) : s.aV.inn = true := by unfold bn.aV; split; assumption; rfl
section
variable {s : bn} {L : List Int} {pt : Int} {G : List (List jm)} {run : Bool} {r : Int}
def KH (s : bn) (l : List Int) : bn := l.foldl N8 s
theorem Out.KH (h : Out s L pt G false) (h1 : 0 ≤ pt ∧ pt ≤ L.length) (l : List Int) (h2 : L.length + l.length ≤ 1024) (h3 : gV G [] + l.length ≤ 16384) :
    Out (KH s l) (L.take pt.toNat ++ l ++ L.drop pt.toNat) (pt + l.length) (I4 G pt l) (!l.isEmpty) := by
  suffices hh : ∀ n (l : List Int), l.length = n → L.length + n ≤ 1024 → gV G [] + n ≤ 16384 → Out (Go.Proofs.YtpdeedplgmbopaaGreatDoor.KH s l) (L.take pt.toNat ++ l ++ L.drop pt.toNat) (pt + l.length) (I4 G pt l) (!l.isEmpty) from hh _ l rfl h2 h3
  intro n
  induction n with
  | zero =>
    intro l hn _ _
    obtain rfl := List.length_eq_zero_iff.1 hn
    simpa [I4, Go.Proofs.YtpdeedplgmbopaaGreatDoor.KH] using h
  | succ n ih =>
    intro l hn h2 h3
    rcases List.eq_nil_or_concat l with rfl | ⟨l, r, rfl⟩
    · cases hn
    rw [List.concat_eq_append] at hn ⊢
    have hn2 : l.length = n := by simpa using hn
    have h4 := ih l hn2 (by omega) (by omega)
    have hl : (L.take pt.toNat ++ l ++ L.drop pt.toNat).length = L.length + l.length := by simp; omega
    have h5 := h4.N8 (r := r) (by rw [hl]; omega) (by rw [hl]; omega) (by rw [Xl]; omega)
    have e1 : (L.take pt.toNat ++ l ++ L.drop pt.toNat).take (pt + l.length).toNat = L.take pt.toNat ++ l := by
      rw [List.take_append_of_le_length (by simp; omega), List.take_of_length_le (by simp; omega)]
    have e2 : (L.take pt.toNat ++ l ++ L.drop pt.toNat).drop (pt + l.length).toNat = L.drop pt.toNat := by
      rw [List.drop_append_of_le_length (by simp; omega), List.drop_of_length_le (by simp; omega), List.nil_append]
    rw [e1, e2, Uk] at h5
    have e3 : Go.Proofs.YtpdeedplgmbopaaGreatDoor.KH s (l ++ [r]) = Go.Proofs.YtpdeedplgmbopaaGreatDoor.N8 (Go.Proofs.YtpdeedplgmbopaaGreatDoor.KH s l) r := by unfold Go.Proofs.YtpdeedplgmbopaaGreatDoor.KH; rw [List.foldl_append]; rfl
    rw [e3]
    rw [show pt + ((l ++ [r]).length : Int) = pt + l.length + 1 from by simp; omega, show (!(l ++ [r]).isEmpty) = true from by simp, ← List.append_assoc]
    exact h5
end
end Go.Proofs.YtpdeedplgmbopaaGreatDoor
end
section
namespace Go.Proofs.YtpdeedplgmbopaaGreatDoor
open Go.RowKit Go.MapKept
structure Key (α : Type) where
  mkKey ::
  d : TypeDesc
  mk : α → Value
  key : ∀ a, IsKey d (mk a)
  inj : ∀ a b, mk a = mk b → a = b
  onto : ∀ v, IsKey d v → ∃ a, mk a = v
def zB (k : IntKind) : Key Int := ⟨.int k, .int k, fun _ => rfl, fun _ _ h => by cases h; rfl, fun v h => by
  cases v <;> simp [IsKey] at h
  subst h
  exact ⟨_, rfl⟩⟩
abbrev uw : Key Int := zB .i64
abbrev Xm : Key Int := zB .i32
def ahr : Key ByteArray := ⟨.string, .string, fun _ => trivial, fun _ _ h => by cases h; rfl, fun v h => by
  cases v <;> simp [IsKey] at h
  exact ⟨_, rfl⟩⟩
section
variable {α : Type} {K : Key α} {f : α → Option Value} {es : Array MapEntry} {clock : Nat}
def EW (K : Key α) (f : α → Option Value) (es : Array MapEntry) (clock : Nat) : Prop :=
  Stamped es clock ∧ (∀ x ∈ es.toList, IsKey K.d x.key) ∧ ∀ a v, f a = some v ↔ ∃ x ∈ es.toList, x.key = K.mk a ∧ x.val = v
def gY (K : Key α) (b : Nat) (f : α → Option Value) : HP := wE fun (x : Array MapEntry × Nat) => fact (EW K f x.1 x.2) • dW b (.map x.1 x.2)
def upd [DecidableEq α] {β : Type} (f : α → Option β) (a : α) (v : β) : α → Option β := fun x => if x = a then some v else f x
theorem EW.same (h : EW K f es clock) {x y : MapEntry} (hx : x ∈ es.toList) (hy : y ∈ es.toList) (e : x.key = y.key) : x = y := by
  have hn := h.1.2.2
  rw [List.Nodup, List.pairwise_map] at hn
  exact Bh hn hx hy e
where
  Bh : ∀ {l : List MapEntry}, l.Pairwise (fun x y => x.key ≠ y.key) → ∀ {x y : MapEntry}, x ∈ l → y ∈ l → x.key = y.key → x = y
    | [], _, _, _, hx, _, _ => by cases hx
    | z :: l, hp, x, y, hx, hy, e => by
      rw [List.pairwise_cons] at hp
      rcases List.mem_cons.1 hx with hx1 | hx1
      · rcases List.mem_cons.1 hy with hy1 | hy1
        · rw [hx1, hy1]
        · exact absurd (by rw [← hx1]; exact e) (hp.1 _ hy1)
      · rcases List.mem_cons.1 hy with hy1 | hy1
        · exact absurd (by rw [← hy1]; exact e.symm) (hp.1 _ hx1)
        · exact Bh hp.2 hx1 hy1 e
theorem VQ : ∀ {l : List MapEntry}, (l.map (·.born)).Nodup → ∀ {x y : MapEntry}, x ∈ l → y ∈ l → x.born = y.born → x = y
  | [], _, _, _, hx, _, _ => by cases hx
  | z :: l, hp, x, y, hx, hy, e => by
    rw [List.map_cons, List.nodup_cons] at hp
    rcases List.mem_cons.1 hx with hx1 | hx1
    · rcases List.mem_cons.1 hy with hy1 | hy1
      · rw [hx1, hy1]
      · exact absurd (List.mem_map.2 ⟨y, hy1, by rw [← hx1]; exact e.symm⟩) hp.1
    · rcases List.mem_cons.1 hy with hy1 | hy1
      · exact absurd (List.mem_map.2 ⟨x, hx1, by rw [← hy1]; exact e⟩) hp.1
      · exact VQ hp.2 hx1 hy1 e
theorem EW.find (h : EW K f es clock) (a : α) : (Instr.findNow K.d (K.mk a) es.toList 0 = some none ∧ f a = none ∧ ∀ x ∈ es.toList, x.key ≠ K.mk a) ∨
    ∃ j e, Instr.findNow K.d (K.mk a) es.toList 0 = some (some (j, e.val)) ∧ es.toList[j]? = some e ∧ e.key = K.mk a ∧ f a = some e.val := by
  rcases findNow_spec (K.key a) es.toList 0 h.2.1 with ⟨h1, h2⟩ | ⟨j, e, h1, h2, h3⟩
  · refine .inl ⟨h1, ?_, h2⟩
    cases hf : f a with
    | none => rfl
    | some v =>
      obtain ⟨x, hx, hk, _⟩ := (h.2.2 a v).1 hf
      exact absurd hk (h2 x hx)
  · refine .inr ⟨j, e, by simpa using h1, h2, h3, (h.2.2 a e.val).2 ⟨e, List.mem_of_getElem? h2, h3, rfl⟩⟩
theorem QX (K : Key α) : EW K (fun _ => none) #[] 0 := ⟨stamped_empty 0, by simp, by simp⟩
end
section
variable {α : Type} {K : Key α} {f : α → Option Value} {es : Array MapEntry} {clock : Nat} {P : Program} {L : List (Nat × Value)} {w w0 : World} {ty : TypeId} {x y z : Operand} {F : HP} {b it n : Nat} {a : α} {S : List α}
theorem V.map (H : V w0 w (gY K b f • F)) : ∃ es clock, EW K f es clock ∧ V w0 w (dW b (.map es clock) • F) := by
  obtain ⟨⟨es, clock⟩, H⟩ := H.nX
  obtain ⟨h, H⟩ := H.flat.fact
  exact ⟨es, clock, h, H⟩
theorem V.Po (h : EW K f es clock) (H : V w0 w (dW b (.map es clock) • F)) : V w0 w (gY K b f • F) := V.jw (es, clock) (V.deep (V.lK h H))
theorem QY {t kt et : TypeId} {zv : Value} (ok : Bool) (h : EW K f es clock) (hb : w.heap[b]? = some (.map es clock)) (ht : P.underlying t = some (.map kt et)) (hk : P.underlying kt = some K.d) (hz : (zeroValue et).run P w = .ok zv w) :
    (Instr.lookup t (.map (some b)) (K.mk a) ok).run P w = .ok (if ok then .tuple #[(f a).getD zv, .bool (f a).isSome] else (f a).getD zv) w := by
  rcases h.find a with ⟨h1, h2, _⟩ | ⟨j, e, h1, h2, h3, h4⟩
  · simp [Instr.lookup, run_underlying ht, MapKept.run_getObj_map hb, MapKept.run_checkKey hk (K.key a), MapKept.run_findKey hk h1, hz, Result.andThen, h2]
  · simp [Instr.lookup, run_underlying ht, MapKept.run_getObj_map hb, MapKept.run_checkKey hk (K.key a), MapKept.run_findKey hk h1, Result.andThen, h4]
theorem QZ {t kt et : TypeId} {zv : Value} (H : V w0 w (gY K b f • F)) (ht : P.underlying t = some (.map kt et)) (hk : P.underlying kt = some K.d) (hz : ∀ w, (zeroValue et).run P w = .ok zv w)
    (hx : ev L x = some (.map (some b))) (hy : ev L y = some (K.mk a)) : Val P L (.lookup t x y false) ty w ((f a).getD zv) w := fun ρ hρ _ _ _ _ => by
  obtain ⟨es, clock, h, H⟩ := H.map
  simp only [execOp, hρ _ _ hx, hρ _ _ hy, Sem.run_bind]
  rw [QY false h H.get.2 ht hk (hz w)]
  rfl
theorem DK {t kt et : TypeId} {zv : Value} (H : V w0 w (gY K b f • F)) (ht : P.underlying t = some (.map kt et)) (hk : P.underlying kt = some K.d) (hz : ∀ w, (zeroValue et).run P w = .ok zv w)
    (hx : ev L x = some (.map (some b))) (hy : ev L y = some (K.mk a)) : Val P L (.lookup t x y true) ty w (.tuple #[(f a).getD zv, .bool (f a).isSome]) w := fun ρ hρ _ _ _ _ => by
  obtain ⟨es, clock, h, H⟩ := H.map
  simp only [execOp, hρ _ _ hx, hρ _ _ hy, Sem.run_bind]
  rw [QY true h H.get.2 ht hk (hz w)]
  rfl
theorem kS {t : TypeId} (K : Key α) (H : V w0 w F) : xk P L (.makeMap t none) ty w fun v w' => ∃ b, v = .map (some b) ∧ V w0 w' (gY K b (fun _ => none) • F) := by
  refine wB (v := .map (some w.heap.size)) (w' := w.alloc (.map #[] 0)) ?_ ⟨_, rfl, V.Po (QX K) (H.alloc _)⟩
  intro ρ hρ d pos pK g
  simp only [execOp, Sem.run_bind, Option.map_none]
  rfl
theorem Q5 {o : Obj} {b : Nat} (h : w.heap[b]? = some o) (o' : Obj) : ({ w with heap := w.heap.setIfInBounds b o' } : World).heap[b]? = some o' ∧ ∀ k, k ≠ b → ({ w with heap := w.heap.setIfInBounds b o' } : World).heap[k]? = w.heap[k]? := by
  have hlt := lt_of_block h
  exact ⟨by simp [hlt], fun k hk => by simp [Ne.symm hk]⟩
theorem V.setB {o : Obj} (H : V w0 w (dW b o • F)) (o' : Obj) : V w0 (ChangeMaps.setBlock w b o') (dW b o' • F) :=
  V.turn (w := w) (w' := ChangeMaps.setBlock w b o') H rfl rfl rfl (by simp [ChangeMaps.setBlock]) (Q5 H.get.2 o').1 fun k hk _ => (Q5 H.get.2 o').2 k hk
theorem xK [DecidableEq α] {t kt et : TypeId} {v : Value} (H : V w0 w (gY K b f • F)) (ht : P.underlying t = some (.map kt et)) (hk : P.underlying kt = some K.d)
    (hx : ev L x = some (.map (some b))) (hy : ev L y = some (K.mk a)) (hz : ev L z = some v) : xk P L (.mapUpdate t x y z) ty w fun _ w' => V w0 w' (gY K b (upd f a v) • F) := by
  obtain ⟨es, clock, h, H⟩ := H.map
  have hb := H.get.2
  rcases h.find a with ⟨h1, h2, h3⟩ | ⟨j, e, h1, h2, h3, h4⟩
  · have hrun : (Instr.mapUpdate t (.map (some b)) (K.mk a) v).run P w = .ok () (ChangeMaps.setBlock w b (.map (es.push { key := K.mk a, val := v, born := clock }) (clock + 1))) := by
      simp [ChangeMaps.setBlock, Instr.mapUpdate, run_underlying ht, MapKept.run_getObj_map hb, MapKept.run_checkKey hk (K.key a), MapKept.run_findKey hk h1, MapKept.run_setObj_map _ hb, Result.andThen]
    refine JL (w' := ChangeMaps.setBlock w b (.map (es.push { key := K.mk a, val := v, born := clock }) (clock + 1))) (fun ρ hρ d pos pK g => ?_) (V.Po (es := es.push { key := K.mk a, val := v, born := clock }) (clock := clock + 1) ⟨stamped_push h.1 h3, ?_, ?_⟩ (H.setB _))
    · simp only [execOp, hρ _ _ hx, hρ _ _ hy, hρ _ _ hz, Sem.run_bind]
      rw [hrun]; rfl
    · intro q hq
      simp only [Array.toList_push, List.mem_append, List.mem_singleton] at hq
      rcases hq with hq | rfl
      · exact h.2.1 q hq
      · exact K.key a
    · intro c u
      simp only [Array.toList_push, List.mem_append, List.mem_singleton, upd]
      by_cases hc : c = a
      · subst hc
        rw [if_pos rfl]
        constructor
        · intro hu; cases hu; exact ⟨_, .inr rfl, rfl, rfl⟩
        · rintro ⟨q, hq | rfl, hqk, Zf⟩
          · exact absurd hqk (h3 q hq)
          · rw [← Zf]
      · rw [if_neg hc, h.2.2 c u]
        constructor
        · rintro ⟨q, hq, hqk, Zf⟩; exact ⟨q, .inl hq, hqk, Zf⟩
        · rintro ⟨q, hq | rfl, hqk, Zf⟩
          · exact ⟨q, hq, hqk, Zf⟩
          · exact absurd (K.inj _ _ hqk).symm hc
  · have hj : es[j]? = some e := by simpa using h2
    have hrun : (Instr.mapUpdate t (.map (some b)) (K.mk a) v).run P w = .ok () (ChangeMaps.setBlock w b (.map (es.modify j fun e => { e with key := K.mk a, val := v }) clock)) := by
      simp [ChangeMaps.setBlock, Instr.mapUpdate, run_underlying ht, MapKept.run_getObj_map hb, MapKept.run_checkKey hk (K.key a), MapKept.run_findKey hk h1, hj, h3, MapKept.run_keyThatStays (K.key a), MapKept.run_setObj_map _ hb, Result.andThen]
    have hkey : ∀ e', es[j]? = some e' → ({ e' with key := K.mk a, val := v } : MapEntry).key = e'.key := fun e' he' => by rw [hj] at he'; cases he'; exact h3.symm
    have hst : Stamped (es.modify j fun e => { e with key := K.mk a, val := v }) clock := stamped_modify h.1 _ _ (fun _ _ => rfl) (fun e' _ he' => hkey e' he')
    have hmem : ∀ q, q ∈ (es.modify j fun e => { e with key := K.mk a, val := v }).toList ↔ (q = { e with key := K.mk a, val := v } ∨ q ∈ es.toList ∧ q.key ≠ K.mk a) := by
      intro q
      have hee : e ∈ es.toList := List.mem_of_getElem? h2
      constructor
      · intro hq
        obtain ⟨i, hi⟩ := List.getElem?_of_mem hq
        rw [Array.getElem?_toList, Array.getElem?_modify] at hi
        by_cases hij : j = i
        · subst hij
          rw [if_pos rfl, hj] at hi
          exact .inl (by simpa using hi.symm)
        · rw [if_neg hij] at hi
          have hqm : q ∈ es.toList := Array.mem_toList_iff.2 (Array.mem_of_getElem? hi)
          refine .inr ⟨hqm, fun hqk => ?_⟩
          have he : q = e := h.same hqm hee (hqk.trans h3.symm)
          subst he
          have hn := h.1.2.1
          have h5 : (es.toList.map (·.born))[i]? = some q.born := by rw [List.getElem?_map, Array.getElem?_toList, hi]; rfl
          have h6 : (es.toList.map (·.born))[j]? = some q.born := by rw [List.getElem?_map, h2]; rfl
          have hlt : i < (es.toList.map (·.born)).length := (List.getElem?_eq_some_iff.1 h5).1
          have hlt2 : j < (es.toList.map (·.born)).length := (List.getElem?_eq_some_iff.1 h6).1
          exact hij ((List.getElem?_inj hlt2 hn).1 (h6.trans h5.symm))
      · rintro (rfl | ⟨hq, hqk⟩)
        · apply List.mem_of_getElem? (i := j)
          rw [Array.getElem?_toList, Array.getElem?_modify, if_pos rfl, hj]; rfl
        · obtain ⟨i, hi⟩ := List.getElem?_of_mem hq
          have hij : j ≠ i := by
            rintro rfl
            rw [h2] at hi; cases hi
            exact hqk h3
          apply List.mem_of_getElem? (i := i)
          rw [Array.getElem?_toList, Array.getElem?_modify, if_neg hij]
          rwa [Array.getElem?_toList] at hi
    refine JL (w' := ChangeMaps.setBlock w b (.map (es.modify j fun e => { e with key := K.mk a, val := v }) clock)) (fun ρ hρ d pos pK g => ?_) (V.Po (es := es.modify j fun e => { e with key := K.mk a, val := v }) (clock := clock) ⟨hst, isKey_modify h.2.1 _ _ hkey, ?_⟩ (H.setB _))
    · simp only [execOp, hρ _ _ hx, hρ _ _ hy, hρ _ _ hz, Sem.run_bind]
      rw [hrun]; rfl
    · intro c u
      simp only [hmem, upd]
      by_cases hc : c = a
      · subst hc
        rw [if_pos rfl]
        constructor
        · intro hu; cases hu; exact ⟨_, .inl rfl, rfl, rfl⟩
        · rintro ⟨q, rfl | ⟨hq, hqn⟩, hqk, Zf⟩
          · rw [← Zf]
          · exact absurd hqk hqn
      · rw [if_neg hc, h.2.2 c u]
        constructor
        · rintro ⟨q, hq, hqk, Zf⟩
          exact ⟨q, .inr ⟨hq, fun hqa => hc (K.inj _ _ (hqk.symm.trans hqa))⟩, hqk, Zf⟩
        · rintro ⟨q, rfl | ⟨hq, hqn⟩, hqk, Zf⟩
          · exact absurd (K.inj _ _ hqk).symm hc
          · exact ⟨q, hq, hqk, Zf⟩
def ac2 (K : Key α) (f : α → Option Value) (es : Array MapEntry) (clock : Nat) (seen : Array Nat) (S : List α) (n : Nat) : Prop :=
  EW K f es clock ∧ (∃ xs : List MapEntry, (∀ x ∈ xs, x ∈ es.toList) ∧ seen.toList = xs.map (·.born) ∧ xs.map (·.key) = S.map K.mk) ∧ (leftOf es seen).size = n
def EX (K : Key α) (b it : Nat) (f : α → Option Value) (S : List α) (n : Nat) : HP := wE fun (x : Array MapEntry × Nat × Array Nat) => fact (ac2 K f x.1 x.2.1 x.2.2 S n) • dW it (.mapIter (some b) x.2.1 x.2.2 x.2.1) • dW b (.map x.1 x.2.1)
theorem V.Zg (H : V w0 w (EX K b it f S n • F)) : ∃ es clock seen, ac2 K f es clock seen S n ∧ V w0 w (dW it (.mapIter (some b) clock seen clock) • dW b (.map es clock) • F) := by
  obtain ⟨⟨es, clock, seen⟩, H⟩ := H.nX
  obtain ⟨h, H⟩ := H.flat.fact
  exact ⟨es, clock, seen, h, H.flat⟩
theorem V.KI {seen : Array Nat} (h : ac2 K f es clock seen S n) (H : V w0 w (dW it (.mapIter (some b) clock seen clock) • dW b (.map es clock) • F)) : V w0 w (EX K b it f S n • F) :=
  V.jw (es, clock, seen) (V.deep (V.lK h (H.of_eq (by ac_rfl))))
theorem V.Ii (H : V w0 w (EX K b it f S n • F)) : V w0 w (gY K b f • F) := by
  obtain ⟨es, clock, seen, h, H⟩ := H.Zg
  exact V.Po h.1 H.right
theorem DL {t kt et : TypeId} (H : V w0 w (gY K b f • F)) (ht : P.underlying t = some (.map kt et)) (hx : ev L x = some (.map (some b))) :
    xk P L (.range t x) ty w fun v w' => ∃ it n, v = .pointer (some ⟨it, 0, none⟩) ∧ V w0 w' (EX K b it f [] n • F) := by
  obtain ⟨es, clock, h, H⟩ := H.map
  refine wB (v := .pointer (some ⟨w.heap.size, 0, none⟩)) (w' := w.alloc (.mapIter (some b) clock #[] clock)) ?_ ⟨_, _, rfl, V.KI ⟨h, ⟨[], by simp, rfl, rfl⟩, rfl⟩ (H.alloc _)⟩
  intro ρ hρ d pos pK g
  simp only [execOp, hρ _ _ hx, Sem.run_bind]
  rw [run_range_map w t kt et b es clock ht H.get.2]
  rfl
def nxV (K : Key α) : Option (α × Value) → Value
  | some (a, u) => .tuple #[.bool true, K.mk a, u]
  | none => .tuple #[.bool false]
def afP (f : α → Option Value) (S : List α) (n : Nat) (S' : List α) (n' : Nat) : Option (α × Value) → Prop
  | some (a, u) => f a = some u ∧ a ∉ S ∧ n' < n ∧ S' = S ++ [a]
  | none => S' = S ∧ n' = n ∧ ∀ a u, f a = some u → a ∈ S
theorem abj {es : Array MapEntry} {seen : Array Nat} {e : MapEntry} (he : e ∈ (leftOf es seen).toList) : (leftOf es (seen.push e.born)).size < (leftOf es seen).size := by
  unfold leftOf at *
  rw [Array.toList_filter, List.mem_filter] at he
  have e1 : ∀ q : MapEntry → Bool, (es.filter q).size = (es.toList.filter q).length := fun q => by rw [← Array.toList_filter, Array.length_toList]
  rw [e1, e1]
  refine filter_lt _ _ (fun x hx => ?_) e he.2 ?_ es.toList he.1
  · simp only [Bool.not_eq_true', Array.contains_push, Bool.or_eq_false_iff] at hx ⊢
    exact hx.1
  · simp
theorem FI (H : V w0 w (EX K b it f S n • F)) (hx : ev L x = some (.pointer (some ⟨it, 0, none⟩))) :
    xk P L (.next x false) ty w fun v w' => ∃ o S' n', v = nxV K o ∧ afP f S n S' n' o ∧ V w0 w' (EX K b it f S' n' • F) := by
  obtain ⟨es, clock, seen, ⟨hm, ⟨xs, hxs, hse, hS⟩, hn⟩, H⟩ := H.Zg
  have hr := H.get.2
  have hb := H.swap.get.2
  rcases run_next_at (P := P) w ty it b clock clock seen es clock hr hb hm.1.1 (Nat.le_refl _) with ⟨h0, hrun⟩ | ⟨e, he, w1, hw1, hrun⟩
  · refine wB (v := nxV K none) (w' := w) (fun ρ hρ d pos pK g => ?_) ⟨none, S, n, rfl, ⟨rfl, rfl, fun a u ha => ?_⟩, V.KI ⟨hm, ⟨xs, hxs, hse, hS⟩, hn⟩ H⟩
    · simp only [execOp, hρ _ _ hx, Sem.run_bind]
      rw [hrun]; rfl
    · obtain ⟨y, hy, hyk, _⟩ := (hm.2.2 a u).1 ha
      have hys : seen.contains y.born = true := by
        cases hc : seen.contains y.born with
        | true => rfl
        | false =>
          have hyl : y ∈ (leftOf es seen).toList := by unfold leftOf; rw [Array.toList_filter, List.mem_filter]; exact ⟨hy, by rw [hc]; rfl⟩
          have := List.length_pos_of_mem hyl
          rw [Array.length_toList] at this
          omega
      have aes : y.born ∈ seen.toList := by simpa using hys
      rw [hse] at aes
      obtain ⟨q, hq, hqb⟩ := List.mem_map.1 aes
      have hqy : q = y := VQ hm.1.2.1 (hxs q hq) hy hqb
      subst hqy
      have : K.mk a ∈ S.map K.mk := by rw [← hS]; exact List.mem_map.2 ⟨q, hq, hyk⟩
      obtain ⟨c, hc, hce⟩ := List.mem_map.1 this
      rw [← K.inj _ _ hce]; exact hc
  · have hel : e ∈ es.toList ∧ seen.contains e.born = false := by
      have := he
      unfold leftOf at this
      rw [Array.toList_filter, List.mem_filter] at this
      exact ⟨this.1, by simpa using this.2⟩
    obtain ⟨a, ha⟩ := K.onto e.key (hm.2.1 e hel.1)
    have hfa : f a = some e.val := (hm.2.2 a e.val).2 ⟨e, hel.1, ha.symm, rfl⟩
    have hns : a ∉ S := fun hs => by
      have : K.mk a ∈ S.map K.mk := List.mem_map.2 ⟨a, hs, rfl⟩
      rw [← hS] at this
      obtain ⟨q, hq, hqk⟩ := List.mem_map.1 this
      have hqe : q = e := hm.same (hxs q hq) hel.1 (hqk.trans ha)
      subst hqe
      have h9 : q.born ∈ seen.toList := by rw [hse]; exact List.mem_map.2 ⟨q, hq, rfl⟩
      have h8 : seen.contains q.born = true := by simpa using h9
      rw [hel.2] at h8; cases h8
    have hval : Val P L (.next x false) ty w (nxV K (some (a, e.val))) (ChangeMaps.setBlock w1 it (.mapIter (some b) clock (seen.push e.born) clock)) := fun ρ hρ d pos pK g => by
      simp only [execOp, hρ _ _ hx, Sem.run_bind]
      rw [hrun]
      simp only [nxV, ha]
      rfl
    have hheap : w1.heap = w.heap := by rcases hw1 with rfl | rfl <;> rfl
    have hr1 : w1.heap[it]? = some (.mapIter (some b) clock seen clock) := by rw [hheap]; exact hr
    refine wB hval ⟨some (a, e.val), S ++ [a], (leftOf es (seen.push e.born)).size, rfl, ⟨hfa, hns, by rw [← hn]; exact abj he, rfl⟩, V.KI (seen := seen.push e.born) ⟨hm, ⟨xs ++ [e], ?_, ?_, ?_⟩, rfl⟩ (V.setB (w := w1) (o := .mapIter (some b) clock seen clock) ?_ _)⟩
    · intro q hq
      rcases List.mem_append.1 hq with hq | hq
      · exact hxs q hq
      · rw [List.mem_singleton.1 hq]; exact hel.1
    · rw [Array.toList_push, hse, List.map_append]; rfl
    · rw [List.map_append, List.map_append, hS]; simp [ha]
    · rcases hw1 with rfl | rfl
      · exact H
      · exact H.drew
theorem Zh {o : Option (α × Value)} (hx : ev L x = some (nxV K o)) : Val P L (.extract x 0) ty w (.bool o.isSome) w := by
  cases o with
  | none => exact oI hx rfl
  | some p => obtain ⟨a, u⟩ := p; exact oI hx rfl
theorem Pq {u : Value} (H : V w0 w (EX K b it f (S ++ [a]) n • F)) (hf : f a = some u) (hx : ev L x = some (.pointer (some ⟨it, 0, none⟩))) : Val P L (.entry x) ty w (.tuple #[K.mk a, u]) w := by
  obtain ⟨es, clock, seen, ⟨hm, ⟨xs, hxs, hse, hS⟩, hn⟩, H⟩ := H.Zg
  intro ρ hρ d pos pK g
  have hne : xs ≠ [] := by
    rintro rfl
    have := congrArg List.length hS
    simp at this
  obtain ⟨ys, e, rfl⟩ : ∃ ys e, xs = ys ++ [e] := ⟨xs.dropLast, xs.getLast hne, (List.dropLast_concat_getLast hne).symm⟩
  have he : e ∈ es.toList := hxs e (by simp)
  have hk : e.key = K.mk a := by
    rw [List.map_append, List.map_append] at hS
    have := List.append_inj_right' hS rfl
    simpa using this
  have hv : e.val = u := by
    have h9 := (hm.2.2 a e.val).2 ⟨e, he, hk, rfl⟩
    rw [hf] at h9; cases h9; rfl
  have hsp : seen = (ys.map (·.born)).toArray.push e.born := by
    apply Array.ext'
    rw [hse]; simp
  have hr := H.get.2
  rw [hsp] at hr
  simp only [execOp, hρ _ _ hx, Sem.run_bind]
  rw [run_entry_at w it b clock _ es clock e hr H.swap.get.2 he hm.1.2.1, hk, hv]
  rfl
end
end Go.Proofs.YtpdeedplgmbopaaGreatDoor
end
