import Derived.Test.YtpdeedplgmbopaaGreatDoorZ4
import Derived.Test.YtpdeedplgmbopaaGreatDoorZ8
import Derived.Test.YtpdeedplgmbopaaGreatDoorZ7
import Derived.Test.YtpdeedplgmbopaaGreatDoorZ6
import Derived.Test.YtpdeedplgmbopaaGreatDoorZ3
import Derived.Maps.RangeRun
set_option linter.unusedSimpArgs false
set_option linter.unusedVariables false
/- Texts of mine, joined, their names in short: UList7 Grp0 Hist EdM Map. -/
section
namespace Go.Proofs.YtpdeedplgmbopaaGreatDoor
open Go.RowKit
open _root_.Go.Proofs.Tryz
theorem Y4 {G : List (List jl)} {k : Nat} (hk : k < G.length) : G.take (k + 1) = G.take k ++ [G.getD k []] := by
  rw [List.take_succ_eq_append_getElem hk, List.getD_eq_getElem?_getD, List.getElem?_eq_getElem hk]
  rfl
theorem KX {G : List (List jl)} {g : List jl} (h : g ∈ G) : g.length ≤ (G.map List.length).sum := by
  induction G with
  | nil => cases h
  | cons x G ih =>
    rw [List.map_cons, List.sum_cons]
    rcases List.mem_cons.1 h with rfl | h
    · omega
    · have := ih h; omega
theorem TI {es : List fM} {l : List jl} (h : es.map fM.says = l) (hl : ∀ e ∈ l, EB e) : ∀ k, k < es.length → EB (es.getD k default).says := fun k hk =>
  hl _ (by rw [← h]; exact List.mem_map_of_mem (zW hk))
section
variable {w0 w : World} {F : HP} {p : Nat} {G : List (List jl)} {N : List jl} {op : Int}
theorem MH (H : V w0 w (jP p G N op • F)) : iQ prog 130 #[.pointer (some ⟨p, 0, none⟩)] w fun v w' => ∃ q, v = .pointer (some ⟨q, 0, none⟩) ∧ V w0 w' (jP q G N op • jP p G N op • F) := by
 refine ji func130 ntmps130 ?_
 refine ku O (aI (bM O (dS O func158 (ng H) ?_)))
 rintro _ _ ⟨rfl, rfl⟩
 refine iE (oh (fV (aI ?_)))
 obtain ⟨DW, BO, qB, oP, nD, xZ, wo, Jf, Jg, OC, sO⟩ := (H).Am
 have hLn : oP.length ≤ 16384 := by omega
 have hBn := TI wo nD.2.2.2.2.2
 refine aB (oq O O (aQ (dV bT O sizeOf235 O O (sO).get.2) (kF (iR (l := [_, _, _, _, _]) sO zeroValue235 O) ?_)))
 rintro _ w3 ⟨b3, rfl, H3⟩
 refine aJ (dG 0 (l' := [_, _, _, _, _]) (us := [_, _, _, _, _]) H3 sizeOf235 O O O (bg (by first | rfl | exact Rd.one ((H3.f3).aP)) (bg (by first | rfl | exact Rd.one ((H3.f5).aP)) (aG (aG (aG bW))))) O O) ?_
 rintro _ w4 H4
 refine sG O (dK O (bI 0 bT O dP O (bI 1 cO O bU O (fC aW O (H4.f2).get.2 O (dS O func173 (Et H4.f6.f6 hBn hLn) ?_)))))
 rintro u5 w5 ⟨fs5, ahZ, H5⟩
 obtain ⟨es1, rfl⟩ : ∃ q, q = fs5 := ⟨_, rfl⟩
 have hes1 := ahZ
 refine bI 0 bT O dP O (bI 0 cO O iF O (aJ (st5 0 H5.f5 iF) ?_))
 rintro _ w6 H6
 refine bI 0 bT O dP O (bI 1 cO O bU O (aJ (gB 1 (l' := [_, _, _, _, _]) H6 bU O O (by first | rfl | exact Rd.one ((H6.f2).aP)) O O) ?_))
 rintro _ w7 H7
 refine rP (bM O (dK O (bI 0 bT O dP O (bI 0 cO O iF O (fC bQ O (H7.f6).get.2 O (aQ (kX ((H7.f7).aP) bQ O) (bJ O (iE (bf ?_)))))))))
 obtain ⟨ad7, ad8, agD, -⟩ := ((H7.f7).aP).form
 subst agD
 refine iC [(3, _), (25, _), (26, _)] (fun (k : Nat) => [(27, .int .i64 (k : Int))]) (fun (k : Nat) W => k ≤ qB.length ∧ ∃ gu, ∃ hs : List (Value × List fM), hs.map (fun g => g.2.map fM.says) = G.take k ∧ V w0 W (eP b3 (.cells #[gu, u5, .int .i64 op, .int .i64 (ig G N : Nat), .bool true] 235 (0, 0)) • Row 80 1 gu hs.length (hs.map (·.1)) • qP hs • Row 189 3 u5 es1.length (es1.flatMap fM.enc) • nC es1 • eP p (.cells #[(.slice ad7 (qB.length) ad8), BO, .int .i64 op, .int .i64 (ig G N : Nat), .bool true] 235 (0, 0)) • Row 80 1 (.slice ad7 (qB.length) ad8) qB.length (qB.map (·.1)) • qP qB • Row 189 3 BO oP.length (oP.flatMap fM.enc) • nC oP • F)) (fun (k : Nat) => qB.length - k) (0) vC mO ⟨by omega, _, [], O, ((H7.f5.f5.f8.f8.f8.f6.f8.f8).Hy none).acS.f5⟩ ?_
 rintro k w9 ⟨hk, gu, hs, hhs, HL⟩
 dsimp only [List.cons_append, List.nil_append]
 refine iy (aQ (gW O O) (rP (aZ O (fun h1 => ?_) (fun h1 => ?_))))
 ·(try simp only [Z] at h1)
  refine fV (aI (bf (iy ?_)))
  obtain ⟨ajq, ajr, rfl⟩ := Rd.pos ((HL.f7).aP) (by omega)
  refine aQ (dM bQ bU O O (by omega)) ?_
  refine aQ (fF (dA aW O) O (by first | exact Rd.lX ((HL.f7).aP) (by omega) | exact Rd.xJ ((HL.f7).aP) (by omega) | exact Rd.xH ((HL.f7).aP) (by omega))) ?_
  have hkl : k < qB.length := by omega
  rw [show (qB.map (·.1)).getD k undef = (qB.getD k default).1 from by simp [List.getD_eq_getElem?_getD, hkl]]
  obtain ⟨gl, A8, hg⟩ : ∃ gl A8, qB.getD k default = (gl, A8) := ⟨_, _, rfl⟩
  rw [hg]
  have aaN := HL.f8
  have aaO := aaN.KW hkl hg
  have hge : A8.map fM.says = G.getD k [] := by
   rw [← xZ]
   have h9 : (qB.map (fun g => g.2.map fM.says)).getD k [] = (qB.getD k default).2.map fM.says := by simp [List.getD_eq_getElem?_getD, hkl]
   rw [h9, hg]
  have hgm : G.getD k [] ∈ G := zW (by omega)
  have hBg := TI hge (nD.2.2.2.2.1 _ hgm)
  have hLg : A8.length ≤ 16384 := by
   have h8 := nD.2.1
   unfold ig at h8
   have h7 := congrArg List.length hge
   rw [List.length_map] at h7
   have h6 := KX hgm
   omega
  have hhl := congrArg List.length hhs
  rw [List.length_map, List.length_take] at hhl
  refine dZ O ?_
  have ad9 := aaO.drew
  have MI := V.kp (ad9.f11.f11.f11.f11.f11.f11.f11.f11.f11.f11.f11)
  refine uN [2] MI O (gy 0 O MI 0 bT O dP O (gy 1 O MI 0 cO O iF O (jf 2 O MI (fun W hW => jv bQ O ((Kp.h hW).f3).get.2 O) (gX 3 O MI O (mQ 4 O (wR O func173 (BQ ad9 hBg hLg)) ?_)))))
  rintro u12 w12 ⟨aaL, ad6, vM⟩
  obtain ⟨es2, rfl⟩ : ∃ q, q = aaL := ⟨_, rfl⟩
  have hes2 := ad6
  have FZ := V.kp (vM.f13.f13.f13.f13.f13.f13.f13.f13.f13.f13.f13.f13.f13)
  refine fD FZ (fun W hW => (Kp.h hW).right.right.f11.f11.f11.f11.f11.f11.f11.f11.f11.f11.f11) ?_
  refine mQ 5 O (lW (vs := [_]) vM bQ bU oG O O O (by decide) (bg (by first | rfl | exact Rd.one ((vM).aP)) bW)) ?_
  rintro l13 PD xI
  have y8 := V.kp (xI.f14.f14.f14.f14.f14.f14.f14.f14.f14.f14.f14.f14.f14.f14)
  refine fD y8 (fun W hW => (Kp.h hW).right.f13.f13.f13.f13.f13.f13.f13.f13.f13.f13.f13.f13.f13) ?_
  refine mQ 6 O (iY xI.f7 bQ JO O O O ((xI).aP) (bg (by first | rfl | exact Rd.one ((xI.f2).aP)) bW) (by omega) (by omega)) ?_
  rintro l14 Pz yF
  have ae0 := yF.f2.right
  have y9 := V.kp (ae0.f13.f13.f13.f13.f13.f13.f13.f13.f13.f13.f13.f13.f13)
  refine iK y9 (by kernel_rfl) ?_
  refine gy 7 O y9 0 bT O dP O (gy 8 O y9 0 cO O iF O ?_)
  refine iH 9 O (by kernel_rfl) (gB 0 (l' := [_, _, _, _, _]) ae0.f6 iF O O (by first | rfl | exact Rd.one ((ae0).aP)) O O) ?_
  rintro _ w16 vN
  have yI := V.kp (vN.f13.f13.f13.f13.f13.f13.f13.f13.f13.f13.f13.f13.f13)
  refine iK yI (by kernel_rfl) ?_
  have X := V.tq (es := es2) (vN.f5.right.f12.f12.f7.f12.f12.f12.f12.f8.f12.f10.f12.f12).deep
  have HN := (V.vS X.swap).acS.f3
  have hnew : (hs ++ [(u12, es2)]).map (fun g => g.2.map fM.says) = G.take (k + 1) := by rw [List.map_append, hhs, Y4 (by omega), ← hge, ← hes2]; rfl
  refine pq (aH (aX (aB (aQ (fQ O O (by omega)) (bJ O (bZ ?_))))))
  refine dX (k + 1) ?_ ?_ ?_ ?_
  ·exact mO
  ·exact vC
  ·(try dsimp only)
   first | done | exact ⟨by omega, _, _, hnew, HN⟩
  ·(try dsimp only); omega
 ·(try simp only [Z] at h1)
  refine dR (aO (aO (bG (aX (kC O (dI results130 O ?_))))))
  rw [List.take_of_length_le (by omega)] at hhs
  have X := V.pR (gs := hs) (now := es1) nD hhs (hes1.trans wo) rfl (HL.f10.f10.f10.f10.f10.f10.f10.f10.f10.f10)
  have Y := V.pR nD xZ wo rfl X.f6.f6.f6.f6.f6
  exact ⟨_, O, Y.swap⟩
end
end Go.Proofs.YtpdeedplgmbopaaGreatDoor
end
section
namespace Go.Proofs.YtpdeedplgmbopaaGreatDoor
open Go.RowKit
def Gv (G : List (List jl)) (N : List jl) : List (List jl) := (pG G N).reverse
def QX (N : List jl) : List (List jl) := if N = [] then [] else [N]
theorem aaP (N : List jl) : (QX N).length ≤ 1 := by unfold QX; split <;> simp
theorem acV (G : List (List jl)) (N : List jl) : Gv G N = QX N ++ G.reverse := by
  unfold Gv QX pG; split <;> simp
end Go.Proofs.YtpdeedplgmbopaaGreatDoor
end
section
namespace Go.Proofs.YtpdeedplgmbopaaGreatDoor
open Go.RowKit
open _root_.Go.Proofs.Tryz
abbrev tu := ByteArray × Int
def DJ (x : tu) : List Value := [.string x.1, .int .i64 x.2]
theorem PO (x : tu) : (DJ x).length = 2 := rfl
def ah0 (x : tu) : Prop := x.1.size ≤ 16384 ∧ 0 ≤ x.2
def HOk (hl : List tu) (base most : Int) : Prop := hl.length ≤ 4096 ∧ 1 ≤ base ∧ base ≤ 4611686018427387904 ∧ (hl.length : Int) ≤ most ∧ most ≤ 4096 ∧ ∀ x ∈ hl, ah0 x
def jC (p : Nat) (hl : List tu) (base most : Int) : HP := xQ fun (v : Value) => fact (HOk hl base most) • eP p (.cells #[v, .int .i64 base, .int .i64 most] 153 (0, 0)) • Row 218 2 v hl.length (hl.flatMap DJ)
section
variable {P : Program} {L : List (Nat × Value)} {w0 w : World} {F : HP} {ty : TypeId} {p : Nat} {hl : List tu} {base most : Int} {v : Value}
theorem MJ {t e sz : Nat} {z : Value} (H : V w0 w F) (ht : P.underlying t = some (.slice e)) (hs : ∀ w, (sizeOf e).run P w = .ok sz w) (hz : ∀ w, (zeroValue e).run P w = .ok z w) :
    xU P L (.buildSlice t 0 #[]) ty w fun v w' => V w0 w' (Row e sz v 0 [] • F) := by
  refine vJ (v := .slice (some ⟨w.heap.size, 0, none⟩) 0 0) (w' := w.alloc (.cells #[] e)) ?_ ?_
  · intro ρ hρ d pos qK g
    simp only [execOp, Instr.buildSlice, Sem.run_bind, run_underlying ht, Result.andThen_ok, hs]
    have h0 : Array.map (fun (_ : Nat) => (default : Value)) (Array.range 0) = #[] := Array.eq_empty_of_size_eq_zero (by simp)
    simp [Instr.fill, newRow, h0]
  · exact (H.alloc _).right.jO _
theorem V.hist (H : V w0 w (jC p hl base most • F)) : ∃ v, HOk hl base most ∧ V w0 w (eP p (.cells #[v, .int .i64 base, .int .i64 most] 153 (0, 0)) • Row 218 2 v hl.length (hl.flatMap DJ) • F) := by
  obtain ⟨v, H⟩ := H.oN
  obtain ⟨h, H⟩ := H.flat.fact
  exact ⟨v, h, H.flat⟩
theorem V.Ic (h : HOk hl base most) (H : V w0 w (eP p (.cells #[v, .int .i64 base, .int .i64 most] 153 (0, 0)) • Row 218 2 v hl.length (hl.flatMap DJ) • F)) : V w0 w (jC p hl base most • F) :=
  V.jV v (V.deep (V.mW h H.deep))
theorem XV {hl : List tu} : ∀ x ∈ hl.flatMap DJ, x.oneCell' = true := by
  intro x hx
  obtain ⟨e, _, hx⟩ := List.mem_flatMap.1 hx
  simp [DJ] at hx
  rcases hx with rfl | rfl <;> rfl
theorem acW : (prog.info? 218).map (fun i => (i.zero, i.size, i.bytes)) = some (some (.agg #[.string .empty, .int .i64 0]), 2, 24) := by kernel_rfl
theorem QY (H : V w0 w F) (hr : YN w0 F 2 v hl.length (hl.flatMap DJ)) (hb : hl.length ≤ 1099511627776) :
    iQ prog 150 #[v] w fun v' w' => V w0 w' (Row 218 2 v' hl.length (hl.flatMap DJ) • F) := by
  obtain ⟨hlen, a, c, rfl, h1, h2, h3⟩ := hr w H
  refine ji func150 ntmps150 ?_
  refine ku O (aI (bM O (aQ (D6 iU O O) ?_)))
  refine jr O (fun h1 => ?_) (fun h1 => ?_)
  · (try simp only [Z] at h1)
    refine kC O (aA (dI results150 O ?_))
    obtain rfl : a = none := by simpa using h1
    obtain rfl : hl = [] := by
      cases hl with
      | nil => rfl
      | cons x l => obtain ⟨b, o, e, _⟩ := h3 (by simp); cases e
    exact H.jO none
  · (try simp only [Z] at h1)
    refine fV (iy (kF (MJ H iU sizeOf218 zeroValue218) ?_))
    rintro _ w1 H1
    refine bJ O (kF (iY H1 iU acW O O O (hr.under _ H1) XV (by omega) (by omega)) ?_)
    rintro _ w2 H2
    refine fA O (dI results150 O ?_)
    exact H2.of_eq (by rw [Nat.zero_add, List.nil_append])
theorem F6 (H : V w0 w (jC p hl base most • F)) : iQ prog 149 #[.pointer (some ⟨p, 0, none⟩)] w fun v w' => v = .bool false ∧ w = w' := by
 refine ji func149 ntmps149 ?_
 refine ku O (aI ?_)
 obtain ⟨V9, FQ, DY⟩ := (H).hist
 refine aB (bJ O (aQ (iJ lM O O) (jm O (fun h1 => ?_) (fun h1 => ?_))))
 ·(try simp only [Z] at h1)
  exfalso; first | contradiction | omega
 ·(try simp only [Z] at h1)
  refine aY (bJ O (aY (dK O (aY (bI 0 nG O sizeOf151 O (aY (bI 1 nH O sizeOf2 O (aY (fC underlying2 O (DY).get.2 O (aY (aQ (eF O O) (fG O O (fA O (dI results149 O ?_))))))))))))))
  exact ⟨by rw [show (base == 0) = false from by rw [beq_eq_false_iff_ne]; have := FQ.2.1; omega], O⟩
theorem QZ {n : Int} (H : V w0 w F) (hn : 0 ≤ n ∧ n ≤ 4096) : iQ prog 55 #[.int .i64 n] w fun v w' => ∃ p, v = .tuple #[.pointer (some ⟨p, 0, none⟩), .int .i64 0] ∧ V w0 w' (jC p [] 1 n • F) := by
  refine ji func55 ntmps55 ?_
  refine iy (gU O (uf O (bM O (aQ (gW O O) (jm O (fun h1 => ?_) (fun h1 => ?_))))))
  · (try simp only [Z] at h1)
    exfalso; first | contradiction | omega
  · (try simp only [Z] at h1)
    refine aY (bJ O (aY (aQ (eX O O) (fG O O (jr O (fun h2 => ?_) (fun h2 => ?_))))))
    · (try simp only [Z] at h2)
      exfalso; first | contradiction | omega
    · (try simp only [Z] at h2)
      refine fV (bM O (aQ (nP (pl := #[(0, 1), (1, 1), (2, 1)]) (#[_, _, _]) nH zeroValue151 (fun w => by kernel_rfl) O (O)) (aQ (nP (pl := #[(0, 3)]) (#[_, _, _]) nG zeroValue153 (fun w => by kernel_rfl) O (O)) (kF (jF (l := [_, _, _]) H O O) ?_))))
      rintro _ w1 ⟨b1, rfl, H1⟩
      refine gU O (fA O (KP results55 O O ?_))
      exact ⟨_, O, V.Ic (v := .slice none 0 0) ⟨by simp, by decide, by decide, by simp; omega, by omega, by simp⟩ ((H1.jO none).swap)⟩
theorem rE (H : V w0 w (jC p hl base most • F)) : iQ prog 117 #[.pointer (some ⟨p, 0, none⟩)] w fun v w' => v = .int .i64 hl.length ∧ V w0 w' (jC p hl base most • F) := by
 refine ji func117 ntmps117 ?_
 refine ku O (aI (bM O (dS O func149 (F6 H) ?_)))
 rintro _ _ ⟨rfl, rfl⟩
 refine iE (oh (fV (aI ?_)))
 obtain ⟨V9, FQ, DY⟩ := (H).hist
 refine aB (oq O O (bI 0 nG O sizeOf151 O (bI 0 nH O sizeOf149 O (fC iU O (DY).get.2 O (aQ (kX ((DY.f2).aP) iU O) (fA O (dI results117 O ?_)))))))
 have TA := DY.f2.f2
 have SA := V.Ic FQ TA
 exact ⟨O, SA⟩
theorem xg (H : V w0 w (jC p hl base most • F)) : iQ prog 109 #[.pointer (some ⟨p, 0, none⟩)] w fun v w' => ∃ q, v = .pointer (some ⟨q, 0, none⟩) ∧ V w0 w' (jC q hl base most • jC p hl base most • F) := by
 refine ji func109 ntmps109 ?_
 refine ku O (aI (bM O (dS O func149 (F6 H) ?_)))
 rintro _ _ ⟨rfl, rfl⟩
 refine iE (oh (fV (aI ?_)))
 obtain ⟨V9, FQ, DY⟩ := (H).hist
 have hcl := FQ.1
 have FP := DY.drew
 have jL := V.kp (FP.f2.f2)
 refine uN [4, 10, 15] jL O (gX 0 O jL O (jE 1 O jL O (gy 2 O jL 0 nG O sizeOf151 O (gy 3 O jL 0 nH O sizeOf149 O (jf 4 O jL (fun W hW => jv iU O ((Kp.h hW)).get.2 O) (gX 6 O jL O (jE 7 O jL O (gy 8 O jL 0 nG O sizeOf151 O (gy 9 O jL 1 nH O sizeOf2 O (jf 10 O jL (fun W hW => jv underlying2 O ((Kp.h hW)).get.2 O) (gX 11 O jL O (jE 12 O jL O (gy 13 O jL 0 nG O sizeOf151 O (gy 14 O jL 2 nH O ay O (jf 15 O jL (fun W hW => jv aC O ((Kp.h hW)).get.2 O) (mQ 5 O (wR O func150 (QY FP (fun W HW => (HW.f2).aP) (by omega))) ?_))))))))))))))))
 rintro u3 w3 H3
 have Bc := V.kp (H3.f3.f3.f3)
 refine fD Bc (fun W hW => (Kp.h hW).right.f2.f2) ?_
 obtain ⟨au3, cu3, eu3, -⟩ := ((H3).aP).form
 subst eu3
 refine iI 16 O Bc (fun _ => nP (pl := #[(0, 1), (1, 1), (2, 1)]) (#[_, _, _]) nH zeroValue151 (fun w => by kernel_rfl) O (O)) (iI 17 O Bc (fun _ => nP (pl := #[(0, 3)]) (#[_, _, _]) nG zeroValue153 (fun w => by kernel_rfl) O (O)) (mQ 18 O (jF (l := [_, _, _]) H3 O O) ?_))
 rintro _ w4 ⟨b4, rfl, H4⟩
 have BN := V.kp (H4.f4.f4.f4.f4)
 refine iK BN (by kernel_rfl) ?_
 refine iI 19 O BN (fun _ => dB O) (pq (aX (lQ (dI results109 O ?_))))
 have Ho6 := H4.f4.f4
 have Hc7 := V.Ic FQ Ho6
 exact ⟨_, O, V.Ic FQ Hc7.f3.f3⟩
end
end Go.Proofs.YtpdeedplgmbopaaGreatDoor
end
section
namespace Go.Proofs.YtpdeedplgmbopaaGreatDoor
open Go.RowKit
def xk {β : Type} (f : Int → β) (a : Int) (v : β) : Int → β := fun x => if x = a then v else f x
theorem iL {β : Type} (f : Int → β) (a : Int) (v : β) : xk f a v a = v := if_pos rfl
theorem xq {β : Type} (f : Int → β) {a x : Int} (v : β) (h : x ≠ a) : xk f a v x = f x := if_neg h
theorem acX {β : Type} (f : Int → β) (a : Int) : xk f a (f a) = f := by funext x; unfold xk; split <;> simp_all
structure oQ where
  L : List Int
  pt : Int
  mark : Int
  E : List (List Int)
  at_ : Nat
  place : Int
  tx : Int → Option ByteArray
  un : Int → List (List jl)
  mode : Int
  over : Bool
  last : Int
  fr : Int
  to : Int
  res : Int
  run : Bool
structure bF where
  c : oQ
  hl : List tu
  base : Int
  most : Int
  qQ : Int
  given : Bool
  minus : Bool
  arg : Int
  inn : Bool
  was : oQ
  cls : Int
  killed : Bool
  lT : Bool
  argues : Bool
  whole : Bool
  put : List jl
def TJ (hl : List tu) (k : Int) : tu := if 0 ≤ k ∧ k < hl.length then hl.getD k.toNat default else (.empty, 0)
def Dl (hl : List tu) (k : Int) : ByteArray := (TJ hl k).1
def kJ (hl : List tu) (tx : Int → Option ByteArray) (k : Int) : ByteArray := (tx k).getD (Dl hl k)
def Fb (hl : List tu) (tx : Int → Option ByteArray) (place : Int) (k : Nat) : Bool := decide ((k : Int) ≠ place) && !((kJ hl tx k).toList == (Dl hl k).toList)
def um (hl : List tu) (tx : Int → Option ByteArray) (place : Int) (n : Nat) : List (Int × ByteArray) := ((List.range n).filter (Fb hl tx place)).map fun (k : Nat) => ((k : Int), kJ hl tx k)
def Dn (hl : List tu) (tx : Int → Option ByteArray) (place : Int) : List (Int × ByteArray) := um hl tx place hl.length ++ (if place ≠ hl.length then [((hl.length : Int), kJ hl tx hl.length)] else [])
def uQ (G : List (List jl)) (inn : Bool) (put : List jl) (typed run : Bool) : Int := (G.length : Int) + if inn && !put.isEmpty && !(typed && run) then 1 else 0
namespace bF
variable (s : bF)
def here : List (List jl) := s.c.un s.c.place
def lY (G : List (List jl)) : bF := { s with c := { s.c with un := xk s.c.un s.c.place G } }
def yJ : Int := if s.inn then 0 else 1
def Dp : Int := if s.inn then 1 else 0
def bH : bF := if s.inn then s else { s with inn := true, was := s.c, cls := 0, killed := false, lT := false, argues := false, whole := true, put := [] }
def iO (on : Bool) : List (List jl) := if s.put = [] then s.here else if on then (match s.here.getLast? with | some g => s.here.dropLast ++ [g ++ s.put] | none => [s.put]) else s.here ++ [s.put]
def dQ (on : Bool) : bF := if s.put = [] then s else { s.lY (s.iO on) with put := [] }
def tC : bF := { s with given := false, minus := false, arg := -1 }
def Cj (err : Int) : Int := if s.inn then err else 1
def Au : bF := { s.tC with inn := false, c := { s.was with last := 0, fr := 0, to := 0 }, qQ := IntKind.i64.wrap (s.qQ + 1), put := [] }
def typed : Bool := s.cls == 3 && s.whole
def jT : bF := { (if s.argues then s else s.tC) with inn := false }
def kU : bF :=
  let t := s.jT.dQ (s.typed && s.c.run)
  let c := { t.c with run := s.typed && (!s.put.isEmpty || s.c.run), last := s.cls }
  { t with c := if s.cls ≠ 2 then { c with fr := 0, to := 0 } else c }
def lD (err : Int) : bF := if s.inn then (if err = 0 then s.kU else s.Au) else s
def qR (x : jl) : bF :=
  if x.2.1.length + x.2.2.length = 0 then s else
  if 16384 ≤ ig s.here s.put then { s.lY [] with put := [x], c := { (s.lY []).c with run := false } } else { s with put := s.put ++ [x] }
def nZ (L : List Int) (pt mk : Int) : bF := { s with c := { s.c with L := L, pt := pt, mark := mk } }
def rF (i j : Int) (l : List Int) : Int := if s.inn then mF s.c.L i j l else 1
def mG (i j : Int) (l : List Int) : bF := if s.inn then (s.nZ (mV s.c.L i j l) (uy s.c.L s.c.pt i j l) (wY s.c.L s.c.mark i j l)).qR (uz s.c.L i j l, nR s.c.L i j l, nS s.c.L i j l) else s
def agE (l : List Int) : Int := s.rF s.c.pt s.c.pt l
def OE (l : List Int) : bF := s.mG s.c.pt s.c.pt l
def Jh (l : List Int) : Int := if s.c.over then min (s.c.pt + l.length) s.c.L.length else s.c.pt
def XW (l : List Int) : Int := s.rF s.c.pt (s.Jh l) l
def DK (l : List Int) : bF := if s.inn then (let t := s.mG s.c.pt (s.Jh l) l; if s.XW l = 0 ∧ s.cls = 0 then { t with cls := 3 } else t) else s
def way (back : Bool) : Int := if s.c.last = 1 ∨ s.killed = true then (if back then 2 else 1) else 0
def sK (i j : Int) : Prop := i < 0 ∨ s.c.L.length < i ∨ j < i ∨ s.c.L.length < j
instance (i j : Int) : Decidable (s.sK i j) := by unfold sK; infer_instance
def cut (i j : Int) : List Int := (s.c.L.drop i.toNat).take (j.toNat - i.toNat)
def uS (i j : Int) (back : Bool) : Int × List (List Int) × Nat := Ei s.c.E s.c.at_ (s.way back) (s.cut i j)
def uD (i j : Int) (back : Bool) : Int := if s.inn then (if s.sK i j then 70 else (s.uS i j back).1) else 1
def KY (E : List (List Int)) (a : Nat) : bF := { s with c := { s.c with E := E, at_ := a } }
def tH (i j : Int) (back : Bool) : bF := if s.uD i j back = 0 then { s.KY (s.uS i j back).2.1 (s.uS i j back).2.2 with killed := true, cls := 1 } else s
def JQ (i j : Int) (back : Bool) : Int := if s.uD i j back = 0 then (s.tH i j back).rF i j [] else s.uD i j back
def xu (i j : Int) (back : Bool) : bF := if s.uD i j back = 0 then (s.tH i j back).mG i j [] else s
def top : List Int := s.c.E.getD s.c.at_ []
def Cm : Int := if s.inn then (if s.c.E.length = 0 then 6 else s.agE s.top) else 1
def xP : bF :=
  if s.Cm = 0 then
    let t := s.OE s.top
    { t with lT := true, cls := 2, c := { t.c with mark := smM t.c.L t.c.mark s.c.pt, fr := s.c.pt, to := s.c.pt + s.top.length } }
  else s
def acY (n : Int) : List Int := s.c.E.getD (Jb s.c.E.length s.c.at_ n) []
def agF (n : Int) : Int := if s.inn then (if s.c.last ≠ 2 ∨ s.lT = true then 6 else if s.c.E.length = 0 then 6 else s.rF s.c.fr s.c.to (s.acY n)) else 1
def agG (n : Int) : bF :=
  if s.agF n = 0 then
    let t := s.mG s.c.fr s.c.to (s.acY n)
    { t with lT := true, cls := 2, c := { t.c with E := s.c.E, at_ := Jb s.c.E.length s.c.at_ n, fr := s.c.fr, to := s.c.fr + (s.acY n).length } }
  else s
def kills : List (List Int) := s.c.E.drop s.c.at_ ++ s.c.E.take s.c.at_
def Eu (x : Int) : Int := if s.inn then mvE s.c.L.length x else 1
def uF (x : Int) : bF := if s.inn then s.nZ s.c.L (mvP s.c.L.length s.c.pt x) s.c.mark else s
def ajs (x : Int) : Int := if s.inn then smE s.c.L x else 1
def aea (x : Int) : bF := if s.inn then s.nZ s.c.L s.c.pt (smM s.c.L s.c.mark x) else s
def ajt : Int := if s.inn then swE s.c.mark else 1
def aeb : bF := if s.inn then s.nZ s.c.L (swP s.c.pt s.c.mark) (swM s.c.pt s.c.mark) else s
def agH (b : List Int × Int × Int) (x : jl) : List Int × Int × Int := (LW b.1 x.1 x.2.1 x.2.2, ahU b.1 b.2.1 x.1 x.2.1 x.2.2, ahV b.1 b.2.2 x.1 x.2.1 x.2.2)
def apps (b : List Int × Int × Int) (l : List jl) : List Int × Int × Int := l.foldl agH b
def TK (l : List jl) : bF := let b := apps (s.c.L, s.c.pt, s.c.mark) l; s.nZ b.1 b.2.1 b.2.2
def Ie : bF := { s with whole := false, c := { s.c with run := false } }
def Bl : bF := if s.inn then (let t := s.dQ false; if t.here = [] then t else ((t.lY t.here.dropLast).TK ((t.here.getLastD []).reverse.map DX)).Ie) else s
def Ib : Int := if s.inn then (if (s.dQ false).here = [] then 6 else 0) else 1
def agI : bF := if s.inn then (let t := s.dQ false; if t.here = [] then t else ((t.lY []).TK (t.here.flatten.reverse.map DX)).Ie) else s
def ae1 (d : Int) : Int := if s.inn then (if d < 0 ∨ 9 < d then 1 else 0) else 1
def ah1 (d : Int) : bF := if s.ae1 d = 0 then { s with given := true, argues := true, arg := min (max s.arg 0 * 10 + d) 1000000 } else s
def ajP : bF := if s.inn then { s with given := true, argues := true, minus := !s.minus } else s
def ah2 (n : Int) : Int := if s.inn then (if 1000000 < n ∨ n < -1000000 then 1 else 0) else 1
def ajQ (n : Int) : bF := if s.ah2 n = 0 then { s with given := true, argues := true, minus := decide (n < 0), arg := max n (-n) } else s
def count : Int := if s.given then (let n := if s.arg < 0 then 1 else s.arg; if s.minus then -n else n) else 1
def vU (m : Int) : Int := if s.inn then (if m < 0 ∨ 2 < m then 1 else 0) else 1
def vV (m : Int) : bF := if s.vU m = 0 then { s with c := { s.c with mode := m } } else s
def MK (b : Bool) : bF := if s.inn then { s with c := { s.c with over := b } } else s
def ah3 (r : Int) : Int := if s.inn then (if r < 1 ∨ 3 < r then 1 else 0) else 1
def ajR (r : Int) : bF := if s.ah3 r = 0 then { s with c := { s.c with res := r } } else s
def first (k : Int) : ByteArray := Dl s.hl k
def stands (k : Int) : ByteArray := (s.c.tx k).getD (s.first k)
def aaQ : Int := uQ s.here s.inn s.put s.typed s.c.run
def saved : List (Int × ByteArray) := Dn s.hl s.c.tx s.c.place
def DL : Int := if s.inn then s.was.last else s.c.last
def Z8 : Int := if s.inn then s.was.fr else s.c.fr
def Z9 : Int := if s.inn then s.was.to else s.c.to
end bF
def oQ.fresh (l : List Int) (E : List (List Int)) (a : Nat) (place mode : Int) : oQ := ⟨l, l.length, -1, E, a, place, fun _ => none, fun _ => [], mode, false, 0, 0, 0, 0, false⟩
def bF.start (s : bF) (hl : List tu) (base most : Int) (l : List Int) : bF := { s with c := oQ.fresh l s.c.E s.c.at_ hl.length s.c.mode, hl := hl, base := base, most := most, given := false, minus := false, arg := -1 }
def bF.new (hl : List tu) (base most : Int) : bF :=
  let c := oQ.fresh [] [] 0 hl.length 0
  { c := c, hl := hl, base := base, most := most, qQ := 0, given := false, minus := false, arg := -1, inn := false, was := c, cls := 0, killed := false, lT := false, argues := false, whole := false, put := [] }
end Go.Proofs.YtpdeedplgmbopaaGreatDoor
end
section
namespace Go.Proofs.YtpdeedplgmbopaaGreatDoor
open Go.RowKit Go.MapKept
structure Key (α : Type) where
  mkKey ::
  d : TypeDesc
  mk : α → Value
  key : ∀ a, IsKey d (mk a)
  inj : ∀ a b, mk a = mk b → a = b
  onto : ∀ v, IsKey d v → ∃ a, mk a = v
def Aw (k : IntKind) : Key Int := ⟨.int k, .int k, fun _ => rfl, fun _ _ h => by cases h; rfl, fun v h => by
  cases v <;> simp [IsKey] at h
  subst h
  exact ⟨_, rfl⟩⟩
abbrev uT : Key Int := Aw .i64
abbrev Y5 : Key Int := Aw .i32
def ajS : Key ByteArray := ⟨.string, .string, fun _ => trivial, fun _ _ h => by cases h; rfl, fun v h => by
  cases v <;> simp [IsKey] at h
  exact ⟨_, rfl⟩⟩
section
variable {α : Type} {K : Key α} {f : α → Option Value} {es : Array MapEntry} {clock : Nat}
def F7 (K : Key α) (f : α → Option Value) (es : Array MapEntry) (clock : Nat) : Prop :=
  Stamped es clock ∧ (∀ x ∈ es.toList, IsKey K.d x.key) ∧ ∀ a v, f a = some v ↔ ∃ x ∈ es.toList, x.key = K.mk a ∧ x.val = v
def iV (K : Key α) (b : Nat) (f : α → Option Value) : HP := xQ fun (x : Array MapEntry × Nat) => fact (F7 K f x.1 x.2) • eP b (.map x.1 x.2)
def upd [DecidableEq α] {β : Type} (f : α → Option β) (a : α) (v : β) : α → Option β := fun x => if x = a then some v else f x
theorem F7.same (h : F7 K f es clock) {x y : MapEntry} (hx : x ∈ es.toList) (hy : y ∈ es.toList) (e : x.key = y.key) : x = y := by
  have hn := h.1.2.2
  rw [List.Nodup, List.pairwise_map] at hn
  exact CB hn hx hy e
where
  CB : ∀ {l : List MapEntry}, l.Pairwise (fun x y => x.key ≠ y.key) → ∀ {x y : MapEntry}, x ∈ l → y ∈ l → x.key = y.key → x = y
    | [], _, _, _, hx, _, _ => by cases hx
    | z :: l, hp, x, y, hx, hy, e => by
      rw [List.pairwise_cons] at hp
      rcases List.mem_cons.1 hx with hx1 | hx1
      · rcases List.mem_cons.1 hy with hy1 | hy1
        · rw [hx1, hy1]
        · exact absurd (by rw [← hx1]; exact e) (hp.1 _ hy1)
      · rcases List.mem_cons.1 hy with hy1 | hy1
        · exact absurd (by rw [← hy1]; exact e.symm) (hp.1 _ hx1)
        · exact CB hp.2 hx1 hy1 e
theorem XY : ∀ {l : List MapEntry}, (l.map (·.born)).Nodup → ∀ {x y : MapEntry}, x ∈ l → y ∈ l → x.born = y.born → x = y
  | [], _, _, _, hx, _, _ => by cases hx
  | z :: l, hp, x, y, hx, hy, e => by
    rw [List.map_cons, List.nodup_cons] at hp
    rcases List.mem_cons.1 hx with hx1 | hx1
    · rcases List.mem_cons.1 hy with hy1 | hy1
      · rw [hx1, hy1]
      · exact absurd (List.mem_map.2 ⟨y, hy1, by rw [← hx1]; exact e.symm⟩) hp.1
    · rcases List.mem_cons.1 hy with hy1 | hy1
      · exact absurd (List.mem_map.2 ⟨x, hx1, by rw [← hy1]; exact e⟩) hp.1
      · exact XY hp.2 hx1 hy1 e
theorem F7.find (h : F7 K f es clock) (a : α) : (Instr.findNow K.d (K.mk a) es.toList 0 = some none ∧ f a = none ∧ ∀ x ∈ es.toList, x.key ≠ K.mk a) ∨
    ∃ j e, Instr.findNow K.d (K.mk a) es.toList 0 = some (some (j, e.val)) ∧ es.toList[j]? = some e ∧ e.key = K.mk a ∧ f a = some e.val := by
  rcases findNow_spec (K.key a) es.toList 0 h.2.1 with ⟨h1, h2⟩ | ⟨j, e, h1, h2, h3⟩
  · refine .inl ⟨h1, ?_, h2⟩
    cases hf : f a with
    | none => rfl
    | some v =>
      obtain ⟨x, hx, hk, _⟩ := (h.2.2 a v).1 hf
      exact absurd hk (h2 x hx)
  · refine .inr ⟨j, e, by simpa using h1, h2, h3, (h.2.2 a e.val).2 ⟨e, List.mem_of_getElem? h2, h3, rfl⟩⟩
theorem TL (K : Key α) : F7 K (fun _ => none) #[] 0 := ⟨stamped_empty 0, by simp, by simp⟩
end
section
variable {α : Type} {K : Key α} {f : α → Option Value} {es : Array MapEntry} {clock : Nat} {P : Program} {L : List (Nat × Value)} {w w0 : World} {ty : TypeId} {x y z : Operand} {F : HP} {b it n : Nat} {a : α} {S : List α}
theorem V.map (H : V w0 w (iV K b f • F)) : ∃ es clock, F7 K f es clock ∧ V w0 w (eP b (.map es clock) • F) := by
  obtain ⟨⟨es, clock⟩, H⟩ := H.oN
  obtain ⟨h, H⟩ := H.flat.fact
  exact ⟨es, clock, h, H⟩
theorem V.Q5 (h : F7 K f es clock) (H : V w0 w (eP b (.map es clock) • F)) : V w0 w (iV K b f • F) := V.jV (es, clock) (V.deep (V.mW h H))
theorem TM {t kt et : TypeId} {zv : Value} (ok : Bool) (h : F7 K f es clock) (hb : w.heap[b]? = some (.map es clock)) (ht : P.underlying t = some (.map kt et)) (hk : P.underlying kt = some K.d) (hz : (zeroValue et).run P w = .ok zv w) :
    (Instr.lookup t (.map (some b)) (K.mk a) ok).run P w = .ok (if ok then .tuple #[(f a).getD zv, .bool (f a).isSome] else (f a).getD zv) w := by
  rcases h.find a with ⟨h1, h2, _⟩ | ⟨j, e, h1, h2, h3, h4⟩
  · simp [Instr.lookup, run_underlying ht, MapKept.run_getObj_map hb, MapKept.run_checkKey hk (K.key a), MapKept.run_findKey hk h1, hz, Result.andThen, h2]
  · simp [Instr.lookup, run_underlying ht, MapKept.run_getObj_map hb, MapKept.run_checkKey hk (K.key a), MapKept.run_findKey hk h1, Result.andThen, h4]
theorem TN {t kt et : TypeId} {zv : Value} (H : V w0 w (iV K b f • F)) (ht : P.underlying t = some (.map kt et)) (hk : P.underlying kt = some K.d) (hz : ∀ w, (zeroValue et).run P w = .ok zv w)
    (hx : ev L x = some (.map (some b))) (hy : ev L y = some (K.mk a)) : Val P L (.lookup t x y false) ty w ((f a).getD zv) w := fun ρ hρ _ _ _ _ => by
  obtain ⟨es, clock, h, H⟩ := H.map
  simp only [execOp, hρ _ _ hx, hρ _ _ hy, Sem.run_bind]
  rw [TM false h H.get.2 ht hk (hz w)]
  rfl
theorem Ew {t kt et : TypeId} {zv : Value} (H : V w0 w (iV K b f • F)) (ht : P.underlying t = some (.map kt et)) (hk : P.underlying kt = some K.d) (hz : ∀ w, (zeroValue et).run P w = .ok zv w)
    (hx : ev L x = some (.map (some b))) (hy : ev L y = some (K.mk a)) : Val P L (.lookup t x y true) ty w (.tuple #[(f a).getD zv, .bool (f a).isSome]) w := fun ρ hρ _ _ _ _ => by
  obtain ⟨es, clock, h, H⟩ := H.map
  simp only [execOp, hρ _ _ hx, hρ _ _ hy, Sem.run_bind]
  rw [TM true h H.get.2 ht hk (hz w)]
  rfl
theorem lF {t : TypeId} (K : Key α) (H : V w0 w F) : xU P L (.makeMap t none) ty w fun v w' => ∃ b, v = .map (some b) ∧ V w0 w' (iV K b (fun _ => none) • F) := by
  refine vJ (v := .map (some w.heap.size)) (w' := w.alloc (.map #[] 0)) ?_ ⟨_, rfl, V.Q5 (TL K) (H.alloc _)⟩
  intro ρ hρ d pos qK g
  simp only [execOp, Sem.run_bind, Option.map_none]
  rfl
theorem TP {o : Obj} {b : Nat} (h : w.heap[b]? = some o) (o' : Obj) : ({ w with heap := w.heap.setIfInBounds b o' } : World).heap[b]? = some o' ∧ ∀ k, k ≠ b → ({ w with heap := w.heap.setIfInBounds b o' } : World).heap[k]? = w.heap[k]? := by
  have hlt := lt_of_block h
  exact ⟨by simp [hlt], fun k hk => by simp [Ne.symm hk]⟩
theorem V.setB {o : Obj} (H : V w0 w (eP b o • F)) (o' : Obj) : V w0 (ChangeMaps.setBlock w b o') (eP b o' • F) :=
  V.turn (w := w) (w' := ChangeMaps.setBlock w b o') H rfl rfl rfl (by simp [ChangeMaps.setBlock]) (TP H.get.2 o').1 fun k hk _ => (TP H.get.2 o').2 k hk
theorem yK [DecidableEq α] {t kt et : TypeId} {v : Value} (H : V w0 w (iV K b f • F)) (ht : P.underlying t = some (.map kt et)) (hk : P.underlying kt = some K.d)
    (hx : ev L x = some (.map (some b))) (hy : ev L y = some (K.mk a)) (hz : ev L z = some v) : xU P L (.mapUpdate t x y z) ty w fun _ w' => V w0 w' (iV K b (upd f a v) • F) := by
  obtain ⟨es, clock, h, H⟩ := H.map
  have hb := H.get.2
  rcases h.find a with ⟨h1, h2, h3⟩ | ⟨j, e, h1, h2, h3, h4⟩
  · have hrun : (Instr.mapUpdate t (.map (some b)) (K.mk a) v).run P w = .ok () (ChangeMaps.setBlock w b (.map (es.push { key := K.mk a, val := v, born := clock }) (clock + 1))) := by
      simp [ChangeMaps.setBlock, Instr.mapUpdate, run_underlying ht, MapKept.run_getObj_map hb, MapKept.run_checkKey hk (K.key a), MapKept.run_findKey hk h1, MapKept.run_setObj_map _ hb, Result.andThen]
    refine LC (w' := ChangeMaps.setBlock w b (.map (es.push { key := K.mk a, val := v, born := clock }) (clock + 1))) (fun ρ hρ d pos qK g => ?_) (V.Q5 (es := es.push { key := K.mk a, val := v, born := clock }) (clock := clock + 1) ⟨stamped_push h.1 h3, ?_, ?_⟩ (H.setB _))
    · simp only [execOp, hρ _ _ hx, hρ _ _ hy, hρ _ _ hz, Sem.run_bind]
      rw [hrun]; rfl
    · intro q hq
      simp only [Array.toList_push, List.mem_append, List.mem_singleton] at hq
      rcases hq with hq | rfl
      · exact h.2.1 q hq
      · exact K.key a
    · intro c u
      simp only [Array.toList_push, List.mem_append, List.mem_singleton, upd]
      by_cases hc : c = a
      · subst hc
        rw [if_pos rfl]
        constructor
        · intro hu; cases hu; exact ⟨_, .inr rfl, rfl, rfl⟩
        · rintro ⟨q, hq | rfl, hqk, hqv⟩
          · exact absurd hqk (h3 q hq)
          · rw [← hqv]
      · rw [if_neg hc, h.2.2 c u]
        constructor
        · rintro ⟨q, hq, hqk, hqv⟩; exact ⟨q, .inl hq, hqk, hqv⟩
        · rintro ⟨q, hq | rfl, hqk, hqv⟩
          · exact ⟨q, hq, hqk, hqv⟩
          · exact absurd (K.inj _ _ hqk).symm hc
  · have hj : es[j]? = some e := by simpa using h2
    have hrun : (Instr.mapUpdate t (.map (some b)) (K.mk a) v).run P w = .ok () (ChangeMaps.setBlock w b (.map (es.modify j fun e => { e with key := K.mk a, val := v }) clock)) := by
      simp [ChangeMaps.setBlock, Instr.mapUpdate, run_underlying ht, MapKept.run_getObj_map hb, MapKept.run_checkKey hk (K.key a), MapKept.run_findKey hk h1, hj, h3, MapKept.run_keyThatStays (K.key a), MapKept.run_setObj_map _ hb, Result.andThen]
    have hkey : ∀ e', es[j]? = some e' → ({ e' with key := K.mk a, val := v } : MapEntry).key = e'.key := fun e' he' => by rw [hj] at he'; cases he'; exact h3.symm
    have hst : Stamped (es.modify j fun e => { e with key := K.mk a, val := v }) clock := stamped_modify h.1 _ _ (fun _ _ => rfl) (fun e' _ he' => hkey e' he')
    have hmem : ∀ q, q ∈ (es.modify j fun e => { e with key := K.mk a, val := v }).toList ↔ (q = { e with key := K.mk a, val := v } ∨ q ∈ es.toList ∧ q.key ≠ K.mk a) := by
      intro q
      have hee : e ∈ es.toList := List.mem_of_getElem? h2
      constructor
      · intro hq
        obtain ⟨i, hi⟩ := List.getElem?_of_mem hq
        rw [Array.getElem?_toList, Array.getElem?_modify] at hi
        by_cases hij : j = i
        · subst hij
          rw [if_pos rfl, hj] at hi
          exact .inl (by simpa using hi.symm)
        · rw [if_neg hij] at hi
          have hqm : q ∈ es.toList := Array.mem_toList_iff.2 (Array.mem_of_getElem? hi)
          refine .inr ⟨hqm, fun hqk => ?_⟩
          have he : q = e := h.same hqm hee (hqk.trans h3.symm)
          subst he
          have hn := h.1.2.1
          have h5 : (es.toList.map (·.born))[i]? = some q.born := by rw [List.getElem?_map, Array.getElem?_toList, hi]; rfl
          have h6 : (es.toList.map (·.born))[j]? = some q.born := by rw [List.getElem?_map, h2]; rfl
          have hlt : i < (es.toList.map (·.born)).length := (List.getElem?_eq_some_iff.1 h5).1
          have hlt2 : j < (es.toList.map (·.born)).length := (List.getElem?_eq_some_iff.1 h6).1
          exact hij ((List.getElem?_inj hlt2 hn).1 (h6.trans h5.symm))
      · rintro (rfl | ⟨hq, hqk⟩)
        · apply List.mem_of_getElem? (i := j)
          rw [Array.getElem?_toList, Array.getElem?_modify, if_pos rfl, hj]; rfl
        · obtain ⟨i, hi⟩ := List.getElem?_of_mem hq
          have hij : j ≠ i := by
            rintro rfl
            rw [h2] at hi; cases hi
            exact hqk h3
          apply List.mem_of_getElem? (i := i)
          rw [Array.getElem?_toList, Array.getElem?_modify, if_neg hij]
          rwa [Array.getElem?_toList] at hi
    refine LC (w' := ChangeMaps.setBlock w b (.map (es.modify j fun e => { e with key := K.mk a, val := v }) clock)) (fun ρ hρ d pos qK g => ?_) (V.Q5 (es := es.modify j fun e => { e with key := K.mk a, val := v }) (clock := clock) ⟨hst, isKey_modify h.2.1 _ _ hkey, ?_⟩ (H.setB _))
    · simp only [execOp, hρ _ _ hx, hρ _ _ hy, hρ _ _ hz, Sem.run_bind]
      rw [hrun]; rfl
    · intro c u
      simp only [hmem, upd]
      by_cases hc : c = a
      · subst hc
        rw [if_pos rfl]
        constructor
        · intro hu; cases hu; exact ⟨_, .inl rfl, rfl, rfl⟩
        · rintro ⟨q, rfl | ⟨hq, hqn⟩, hqk, hqv⟩
          · rw [← hqv]
          · exact absurd hqk hqn
      · rw [if_neg hc, h.2.2 c u]
        constructor
        · rintro ⟨q, hq, hqk, hqv⟩
          exact ⟨q, .inr ⟨hq, fun hqa => hc (K.inj _ _ (hqk.symm.trans hqa))⟩, hqk, hqv⟩
        · rintro ⟨q, rfl | ⟨hq, hqn⟩, hqk, hqv⟩
          · exact absurd (K.inj _ _ hqk).symm hc
          · exact ⟨q, hq, hqk, hqv⟩
def ae2 (K : Key α) (f : α → Option Value) (es : Array MapEntry) (clock : Nat) (seen : Array Nat) (S : List α) (n : Nat) : Prop :=
  F7 K f es clock ∧ (∃ xs : List MapEntry, (∀ x ∈ xs, x ∈ es.toList) ∧ seen.toList = xs.map (·.born) ∧ xs.map (·.key) = S.map K.mk) ∧ (leftOf es seen).size = n
def F8 (K : Key α) (b it : Nat) (f : α → Option Value) (S : List α) (n : Nat) : HP := xQ fun (x : Array MapEntry × Nat × Array Nat) => fact (ae2 K f x.1 x.2.1 x.2.2 S n) • eP it (.mapIter (some b) x.2.1 x.2.2 x.2.1) • eP b (.map x.1 x.2.1)
theorem V.aaR (H : V w0 w (F8 K b it f S n • F)) : ∃ es clock seen, ae2 K f es clock seen S n ∧ V w0 w (eP it (.mapIter (some b) clock seen clock) • eP b (.map es clock) • F) := by
  obtain ⟨⟨es, clock, seen⟩, H⟩ := H.oN
  obtain ⟨h, H⟩ := H.flat.fact
  exact ⟨es, clock, seen, h, H.flat⟩
theorem V.ML {seen : Array Nat} (h : ae2 K f es clock seen S n) (H : V w0 w (eP it (.mapIter (some b) clock seen clock) • eP b (.map es clock) • F)) : V w0 w (F8 K b it f S n • F) :=
  V.jV (es, clock, seen) (V.deep (V.mW h (H.of_eq (by ac_rfl))))
theorem V.Ji (H : V w0 w (F8 K b it f S n • F)) : V w0 w (iV K b f • F) := by
  obtain ⟨es, clock, seen, h, H⟩ := H.aaR
  exact V.Q5 h.1 H.right
theorem Ey {t kt et : TypeId} (H : V w0 w (iV K b f • F)) (ht : P.underlying t = some (.map kt et)) (hx : ev L x = some (.map (some b))) :
    xU P L (.range t x) ty w fun v w' => ∃ it n, v = .pointer (some ⟨it, 0, none⟩) ∧ V w0 w' (F8 K b it f [] n • F) := by
  obtain ⟨es, clock, h, H⟩ := H.map
  refine vJ (v := .pointer (some ⟨w.heap.size, 0, none⟩)) (w' := w.alloc (.mapIter (some b) clock #[] clock)) ?_ ⟨_, _, rfl, V.ML ⟨h, ⟨[], by simp, rfl, rfl⟩, rfl⟩ (H.alloc _)⟩
  intro ρ hρ d pos qK g
  simp only [execOp, hρ _ _ hx, Sem.run_bind]
  rw [run_range_map w t kt et b es clock ht H.get.2]
  rfl
def nxV (K : Key α) : Option (α × Value) → Value
  | some (a, u) => .tuple #[.bool true, K.mk a, u]
  | none => .tuple #[.bool false]
def ah4 (f : α → Option Value) (S : List α) (n : Nat) (S' : List α) (n' : Nat) : Option (α × Value) → Prop
  | some (a, u) => f a = some u ∧ a ∉ S ∧ n' < n ∧ S' = S ++ [a]
  | none => S' = S ∧ n' = n ∧ ∀ a u, f a = some u → a ∈ S
theorem acZ {es : Array MapEntry} {seen : Array Nat} {e : MapEntry} (he : e ∈ (leftOf es seen).toList) : (leftOf es (seen.push e.born)).size < (leftOf es seen).size := by
  unfold leftOf at *
  rw [Array.toList_filter, List.mem_filter] at he
  have e1 : ∀ q : MapEntry → Bool, (es.filter q).size = (es.toList.filter q).length := fun q => by rw [← Array.toList_filter, Array.length_toList]
  rw [e1, e1]
  refine filter_lt _ _ (fun x hx => ?_) e he.2 ?_ es.toList he.1
  · simp only [Bool.not_eq_true', Array.contains_push, Bool.or_eq_false_iff] at hx ⊢
    exact hx.1
  · simp
theorem Gw (H : V w0 w (F8 K b it f S n • F)) (hx : ev L x = some (.pointer (some ⟨it, 0, none⟩))) :
    xU P L (.next x false) ty w fun v w' => ∃ o S' n', v = nxV K o ∧ ah4 f S n S' n' o ∧ V w0 w' (F8 K b it f S' n' • F) := by
  obtain ⟨es, clock, seen, ⟨hm, ⟨xs, hxs, hse, hS⟩, hn⟩, H⟩ := H.aaR
  have hr := H.get.2
  have hb := H.swap.get.2
  rcases run_next_at (P := P) w ty it b clock clock seen es clock hr hb hm.1.1 (Nat.le_refl _) with ⟨h0, hrun⟩ | ⟨e, he, w1, hw1, hrun⟩
  · refine vJ (v := nxV K none) (w' := w) (fun ρ hρ d pos qK g => ?_) ⟨none, S, n, rfl, ⟨rfl, rfl, fun a u ha => ?_⟩, V.ML ⟨hm, ⟨xs, hxs, hse, hS⟩, hn⟩ H⟩
    · simp only [execOp, hρ _ _ hx, Sem.run_bind]
      rw [hrun]; rfl
    · obtain ⟨y, hy, hyk, _⟩ := (hm.2.2 a u).1 ha
      have hys : seen.contains y.born = true := by
        cases hc : seen.contains y.born with
        | true => rfl
        | false =>
          have hyl : y ∈ (leftOf es seen).toList := by unfold leftOf; rw [Array.toList_filter, List.mem_filter]; exact ⟨hy, by rw [hc]; rfl⟩
          have := List.length_pos_of_mem hyl
          rw [Array.length_toList] at this
          omega
      have agJ : y.born ∈ seen.toList := by simpa using hys
      rw [hse] at agJ
      obtain ⟨q, hq, hqb⟩ := List.mem_map.1 agJ
      have hqy : q = y := XY hm.1.2.1 (hxs q hq) hy hqb
      subst hqy
      have : K.mk a ∈ S.map K.mk := by rw [← hS]; exact List.mem_map.2 ⟨q, hq, hyk⟩
      obtain ⟨c, hc, hce⟩ := List.mem_map.1 this
      rw [← K.inj _ _ hce]; exact hc
  · have hel : e ∈ es.toList ∧ seen.contains e.born = false := by
      have := he
      unfold leftOf at this
      rw [Array.toList_filter, List.mem_filter] at this
      exact ⟨this.1, by simpa using this.2⟩
    obtain ⟨a, ha⟩ := K.onto e.key (hm.2.1 e hel.1)
    have hfa : f a = some e.val := (hm.2.2 a e.val).2 ⟨e, hel.1, ha.symm, rfl⟩
    have hns : a ∉ S := fun hs => by
      have : K.mk a ∈ S.map K.mk := List.mem_map.2 ⟨a, hs, rfl⟩
      rw [← hS] at this
      obtain ⟨q, hq, hqk⟩ := List.mem_map.1 this
      have hqe : q = e := hm.same (hxs q hq) hel.1 (hqk.trans ha)
      subst hqe
      have h9 : q.born ∈ seen.toList := by rw [hse]; exact List.mem_map.2 ⟨q, hq, rfl⟩
      have h8 : seen.contains q.born = true := by simpa using h9
      rw [hel.2] at h8; cases h8
    have hval : Val P L (.next x false) ty w (nxV K (some (a, e.val))) (ChangeMaps.setBlock w1 it (.mapIter (some b) clock (seen.push e.born) clock)) := fun ρ hρ d pos qK g => by
      simp only [execOp, hρ _ _ hx, Sem.run_bind]
      rw [hrun]
      simp only [nxV, ha]
      rfl
    have hheap : w1.heap = w.heap := by rcases hw1 with rfl | rfl <;> rfl
    have hr1 : w1.heap[it]? = some (.mapIter (some b) clock seen clock) := by rw [hheap]; exact hr
    refine vJ hval ⟨some (a, e.val), S ++ [a], (leftOf es (seen.push e.born)).size, rfl, ⟨hfa, hns, by rw [← hn]; exact acZ he, rfl⟩, V.ML (seen := seen.push e.born) ⟨hm, ⟨xs ++ [e], ?_, ?_, ?_⟩, rfl⟩ (V.setB (w := w1) (o := .mapIter (some b) clock seen clock) ?_ _)⟩
    · intro q hq
      rcases List.mem_append.1 hq with hq | hq
      · exact hxs q hq
      · rw [List.mem_singleton.1 hq]; exact hel.1
    · rw [Array.toList_push, hse, List.map_append]; rfl
    · rw [List.map_append, List.map_append, hS]; simp [ha]
    · rcases hw1 with rfl | rfl
      · exact H
      · exact H.drew
theorem aaS {o : Option (α × Value)} (hx : ev L x = some (nxV K o)) : Val P L (.extract x 0) ty w (.bool o.isSome) w := by
  cases o with
  | none => exact pJ hx rfl
  | some p => obtain ⟨a, u⟩ := p; exact pJ hx rfl
theorem Q7 {u : Value} (H : V w0 w (F8 K b it f (S ++ [a]) n • F)) (hf : f a = some u) (hx : ev L x = some (.pointer (some ⟨it, 0, none⟩))) : Val P L (.entry x) ty w (.tuple #[K.mk a, u]) w := by
  obtain ⟨es, clock, seen, ⟨hm, ⟨xs, hxs, hse, hS⟩, hn⟩, H⟩ := H.aaR
  intro ρ hρ d pos qK g
  have hne : xs ≠ [] := by
    rintro rfl
    have := congrArg List.length hS
    simp at this
  obtain ⟨ys, e, rfl⟩ : ∃ ys e, xs = ys ++ [e] := ⟨xs.dropLast, xs.getLast hne, (List.dropLast_concat_getLast hne).symm⟩
  have he : e ∈ es.toList := hxs e (by simp)
  have hk : e.key = K.mk a := by
    rw [List.map_append, List.map_append] at hS
    have := List.append_inj_right' hS rfl
    simpa using this
  have hv : e.val = u := by
    have h9 := (hm.2.2 a e.val).2 ⟨e, he, hk, rfl⟩
    rw [hf] at h9; cases h9; rfl
  have hsp : seen = (ys.map (·.born)).toArray.push e.born := by
    apply Array.ext'
    rw [hse]; simp
  have hr := H.get.2
  rw [hsp] at hr
  simp only [execOp, hρ _ _ hx, Sem.run_bind]
  rw [run_entry_at w it b clock _ es clock e hr H.swap.get.2 he hm.1.2.1, hk, hv]
  rfl
end
end Go.Proofs.YtpdeedplgmbopaaGreatDoor
end
