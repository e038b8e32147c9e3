import Derived.Test.YtpdeedplgmbopaaGreatDoorZ4
import Derived.Test.YtpdeedplgmbopaaGreatDoorZ7
import Derived.Test.YtpdeedplgmbopaaGreatDoorZ6
import Derived.Test.YtpdeedplgmbopaaGreatDoorZ3
import Derived.Maps.RangeRun
set_option linter.unusedSimpArgs false
set_option linter.unusedVariables false
/- Texts of mine, joined, their names in short: UList7 Grp0 Hist EdM Map. -/
section
namespace Go.Proofs.YtpdeedplgmbopaaGreatDoor
open Go.RowKit
open _root_.Go.Proofs.Tryz
theorem SC {G : List (List iR)} {k : Nat} (hk : k < G.length) : G.take (k + 1) = G.take k ++ [G.getD k []] := by
  rw [List.take_succ_eq_append_getElem hk, List.getD_eq_getElem?_getD, List.getElem?_eq_getElem hk]
  rfl
theorem Fb {G : List (List iR)} {g : List iR} (h : g ∈ G) : g.length ≤ (G.map List.length).sum := by
  induction G with
  | nil => cases h
  | cons x G ih =>
    rw [List.map_cons, List.sum_cons]
    rcases List.mem_cons.1 h with rfl | h
    · omega
    · have := ih h; omega
theorem MG {es : List dQ} {l : List iR} (h : es.map dQ.says = l) (hl : ∀ e ∈ l, EB e) : ∀ k, k < es.length → EB (es.getD k default).says := fun k hk =>
  hl _ (by rw [← h]; exact List.mem_map_of_mem (vC hk))
section
variable {w0 w : World} {F : HP} {p : Nat} {G : List (List iR)} {N : List iR} {op : Int}
theorem Gi (H : V w0 w (iQ p G N op • F)) : gI prog 130 #[.pointer (some ⟨p, 0, none⟩)] w fun v w' => ∃ q, v = .pointer (some ⟨q, 0, none⟩) ∧ V w0 w' (iQ q G N op • iQ p G N op • F) := by
 refine gG func130 ntmps130 ?_
 refine jg O (aP (bP O (dS O func158 (mW H) ?_)))
 rintro _ _ ⟨rfl, rfl⟩
 refine iJ (qy (fZ (aP ?_)))
 obtain ⟨Az, yK, nM, mP, kZ, uQ, rU, FZ, F5, Md, qC⟩ := (H).xZ
 have hLn : mP.length ≤ 16384 := by omega
 have hBn := MG rU kZ.2.2.2.2.2
 refine aC (nD O O (aV (eU bn O sizeOf235 O O (qC).get.2) (jr (fH (l := [_, _, _, _, _]) qC zeroValue235 O) ?_)))
 rintro _ w3 ⟨b3, rfl, H3⟩
 refine aH (bU 0 (l' := [_, _, _, _, _]) (us := [_, _, _, _, _]) H3 sizeOf235 O O O (aW (by first | rfl | exact Rd.one ((H3.f3).aS)) (aW (by first | rfl | exact Rd.one ((H3.f5).aS)) (ay (ay (ay bF))))) O O) ?_
 rintro _ w4 H4
 refine qH O (dJ O (bD 0 bn O cZ O (bD 1 bG O bH O (fG aU O (H4.f2).get.2 O (dS O func173 (zL H4.f6.f6 hBn hLn) ?_)))))
 rintro u5 w5 ⟨fs5, acX, H5⟩
 obtain ⟨es1, rfl⟩ : ∃ q, q = fs5 := ⟨_, rfl⟩
 have hes1 := acX
 refine bD 0 bn O cZ O (bD 0 bG O eH O (aH (XA 0 H5.f5 eH) ?_))
 rintro _ w6 H6
 refine bD 0 bn O cZ O (bD 1 bG O bH O (aH (eX 1 (l' := [_, _, _, _, _]) H6 bH O O (by first | rfl | exact Rd.one ((H6.f2).aS)) O O) ?_))
 rintro _ w7 H7
 refine pJ (bP O (dJ O (bD 0 bn O cZ O (bD 0 bG O eH O (fG bf O (H7.f6).get.2 O (aV (jw ((H7.f7).aS) bf O) (bQ O (iJ (aY ?_)))))))))
 obtain ⟨Y4, Y5, abI, -⟩ := ((H7.f7).aS).form
 subst abI
 refine fF [(3, _), (25, _), (26, _)] (fun (k : Nat) => [(27, .int .i64 (k : Int))]) (fun (k : Nat) W => k ≤ nM.length ∧ ∃ gu, ∃ hs : List (Value × List dQ), hs.map (fun g => g.2.map dQ.says) = G.take k ∧ V w0 W (dK b3 (.cells #[gu, u5, .int .i64 op, .int .i64 (iG G N : Nat), .bool true] 235 (0, 0)) • Row 80 1 gu hs.length (hs.map (·.1)) • nJ hs • Row 189 3 u5 es1.length (es1.flatMap dQ.enc) • kE es1 • dK p (.cells #[(.slice Y4 (nM.length) Y5), yK, .int .i64 op, .int .i64 (iG G N : Nat), .bool true] 235 (0, 0)) • Row 80 1 (.slice Y4 (nM.length) Y5) nM.length (nM.map (·.1)) • nJ nM • Row 189 3 yK mP.length (mP.flatMap dQ.enc) • kE mP • F)) (fun (k : Nat) => nM.length - k) (0) uM lI ⟨by omega, _, [], O, ((H7.f5.f5.f8.f8.f8.f6.f8.f8).FY none).XL.f5⟩ ?_
 rintro k w9 ⟨hk, gu, hs, U7, HL⟩
 dsimp only [List.cons_append, List.nil_append]
 refine iE (aV (iL O O) (pJ (bJ O (fun h1 => ?_) (fun h1 => ?_))))
 ·(try simp only [Z] at h1)
  refine fZ (aP (aY (iE ?_)))
  obtain ⟨aej, aek, rfl⟩ := Rd.pos ((HL.f7).aS) (by omega)
  refine aV (dI bf bH O O (by omega)) ?_
  refine aV (fA (dn aU O) O (by first | exact Rd.lW ((HL.f7).aS) (by omega) | exact Rd.wK ((HL.f7).aS) (by omega) | exact Rd.wH ((HL.f7).aS) (by omega))) ?_
  have hkl : k < nM.length := by omega
  rw [show (nM.map (·.1)).getD k undef = (nM.getD k default).1 from by simp [List.getD_eq_getElem?_getD, hkl]]
  obtain ⟨gl, wI, hg⟩ : ∃ gl wI, nM.getD k default = (gl, wI) := ⟨_, _, rfl⟩
  rw [hg]
  have U8 := HL.f8
  have U9 := U8.Fa hkl hg
  have hge : wI.map dQ.says = G.getD k [] := by
   rw [← uQ]
   have h9 : (nM.map (fun g => g.2.map dQ.says)).getD k [] = (nM.getD k default).2.map dQ.says := by simp [List.getD_eq_getElem?_getD, hkl]
   rw [h9, hg]
  have hgm : G.getD k [] ∈ G := vC (by omega)
  have hBg := MG hge (kZ.2.2.2.2.1 _ hgm)
  have hLg : wI.length ≤ 16384 := by
   have h8 := kZ.2.1
   unfold iG at h8
   have h7 := congrArg List.length hge
   rw [List.length_map] at h7
   have h6 := Fb hgm
   omega
  have hhl := congrArg List.length U7
  rw [List.length_map, List.length_take] at hhl
  refine gJ O ?_
  have Y6 := U9.drew
  have Gj := V.kp (Y6.f11.f11.f11.f11.f11.f11.f11.f11.f11.f11.f11)
  refine yC [2] Gj O (gV 0 O Gj 0 bn O cZ O (gV 1 O Gj 0 bG O eH O (jS 2 O Gj (fun W hW => jX bf O ((Kp.h hW).f3).get.2 O) (jG 3 O Gj O (og 4 O (yF O func173 (xA Y6 hBg hLg)) ?_)))))
  rintro u12 w12 ⟨U5, Y3, um⟩
  obtain ⟨es2, rfl⟩ : ∃ q, q = U5 := ⟨_, rfl⟩
  have hes2 := Y3
  have F8 := V.kp (um.f13.f13.f13.f13.f13.f13.f13.f13.f13.f13.f13.f13.f13)
  refine dU F8 (fun W hW => (Kp.h hW).right.right.f11.f11.f11.f11.f11.f11.f11.f11.f11.f11.f11) ?_
  refine og 5 O (jQ (vs := [_]) um bf bH lq O O O (by decide) (aW (by first | rfl | exact Rd.one ((um).aS)) bF)) ?_
  rintro l13 Oz uS
  have uG := V.kp (uS.f14.f14.f14.f14.f14.f14.f14.f14.f14.f14.f14.f14.f14.f14)
  refine dU uG (fun W hW => (Kp.h hW).right.f13.f13.f13.f13.f13.f13.f13.f13.f13.f13.f13.f13.f13) ?_
  refine og 6 O (fQ uS.f7 bf Es O O O ((uS).aS) (aW (by first | rfl | exact Rd.one ((uS.f2).aS)) bF) (by omega) (by omega)) ?_
  rintro l14 RV Ag
  have Z5 := Ag.f2.right
  have uH := V.kp (Z5.f13.f13.f13.f13.f13.f13.f13.f13.f13.f13.f13.f13.f13)
  refine gW uH (by kernel_rfl) ?_
  refine gV 7 O uH 0 bn O cZ O (gV 8 O uH 0 bG O eH O ?_)
  refine fM 9 O (by kernel_rfl) (eX 0 (l' := [_, _, _, _, _]) Z5.f6 eH O O (by first | rfl | exact Rd.one ((Z5).aS)) O O) ?_
  rintro _ w16 yH
  have CX := V.kp (yH.f13.f13.f13.f13.f13.f13.f13.f13.f13.f13.f13.f13.f13)
  refine gW CX (by kernel_rfl) ?_
  have X := V.oN (es := es2) (yH.f5.right.f12.f12.f7.f12.f12.f12.f12.f8.f12.f10.f12.f12).deep
  have HN := (V.qJ X.swap).XL.f3
  have hnew : (hs ++ [(u12, es2)]).map (fun g => g.2.map dQ.says) = G.take (k + 1) := by rw [List.map_append, U7, SC (by omega), ← hge, ← hes2]; rfl
  refine qR (aJ (aX (aC (aV (gy O O (by omega)) (bQ O (bM ?_))))))
  refine dL (k + 1) ?_ ?_ ?_ ?_
  ·exact lI
  ·exact uM
  ·(try dsimp only)
   first | done | exact ⟨by omega, _, _, hnew, HN⟩
  ·(try dsimp only); omega
 ·(try simp only [Z] at h1)
  refine dB (aI (aI (aZ (aX (jC O (dG results130 O ?_))))))
  rw [List.take_of_length_le (by omega)] at U7
  have X := V.nK (gs := hs) (now := es1) kZ U7 (hes1.trans rU) rfl (HL.f10.f10.f10.f10.f10.f10.f10.f10.f10.f10)
  have Y := V.nK kZ uQ rU rfl X.f6.f6.f6.f6.f6
  exact ⟨_, O, Y.swap⟩
end
end Go.Proofs.YtpdeedplgmbopaaGreatDoor
end
section
namespace Go.Proofs.YtpdeedplgmbopaaGreatDoor
open Go.RowKit
def Bz (G : List (List iR)) (N : List iR) : List (List iR) := (mF G N).reverse
def Kz (N : List iR) : List (List iR) := if N = [] then [] else [N]
theorem Va (N : List iR) : (Kz N).length ≤ 1 := by unfold Kz; split <;> simp
theorem XQ (G : List (List iR)) (N : List iR) : Bz G N = Kz N ++ G.reverse := by
  unfold Bz Kz mF; split <;> simp
end Go.Proofs.YtpdeedplgmbopaaGreatDoor
end
section
namespace Go.Proofs.YtpdeedplgmbopaaGreatDoor
open Go.RowKit
open _root_.Go.Proofs.Tryz
abbrev pz := ByteArray × Int
def y8 (x : pz) : List Value := [.string x.1, .int .i64 x.2]
theorem Jr (x : pz) : (y8 x).length = 2 := rfl
def acY (x : pz) : Prop := x.1.size ≤ 16384 ∧ 0 ≤ x.2
def HOk (hl : List pz) (base most : Int) : Prop := hl.length ≤ 4096 ∧ 1 ≤ base ∧ base ≤ 4611686018427387904 ∧ (hl.length : Int) ≤ most ∧ most ≤ 4096 ∧ ∀ x ∈ hl, acY x
def gQ (p : Nat) (hl : List pz) (base most : Int) : HP := rH fun (v : Value) => fact (HOk hl base most) • dK p (.cells #[v, .int .i64 base, .int .i64 most] 153 (0, 0)) • Row 218 2 v hl.length (hl.flatMap y8)
section
variable {P : Program} {L : List (Nat × Value)} {w0 w : World} {F : HP} {ty : TypeId} {p : Nat} {hl : List pz} {base most : Int} {v : Value}
theorem Gl {t e sz : Nat} {z : Value} (H : V w0 w F) (ht : P.underlying t = some (.slice e)) (hs : ∀ w, (sizeOf e).run P w = .ok sz w) (hz : ∀ w, (zeroValue e).run P w = .ok z w) :
    ug P L (.buildSlice t 0 #[]) ty w fun v w' => V w0 w' (Row e sz v 0 [] • F) := by
  refine vK (v := .slice (some ⟨w.heap.size, 0, none⟩) 0 0) (w' := w.alloc (.cells #[] e)) ?_ ?_
  · intro ρ hρ d pos nC g
    simp only [execOp, Instr.buildSlice, Sem.run_bind, run_underlying ht, Result.andThen_ok, hs]
    have h0 : Array.map (fun (_ : Nat) => (default : Value)) (Array.range 0) = #[] := Array.eq_empty_of_size_eq_zero (by simp)
    simp [Instr.fill, newRow, h0]
  · exact (H.alloc _).right.iP _
theorem V.hist (H : V w0 w (gQ p hl base most • F)) : ∃ v, HOk hl base most ∧ V w0 w (dK p (.cells #[v, .int .i64 base, .int .i64 most] 153 (0, 0)) • Row 218 2 v hl.length (hl.flatMap y8) • F) := by
  obtain ⟨v, H⟩ := H.lJ
  obtain ⟨h, H⟩ := H.flat.fact
  exact ⟨v, h, H.flat⟩
theorem V.CY (h : HOk hl base most) (H : V w0 w (dK p (.cells #[v, .int .i64 base, .int .i64 most] 153 (0, 0)) • Row 218 2 v hl.length (hl.flatMap y8) • F)) : V w0 w (gQ p hl base most • F) :=
  V.iy v (V.deep (V.jY h H.deep))
theorem QN {hl : List pz} : ∀ x ∈ hl.flatMap y8, x.oneCell' = true := by
  intro x hx
  obtain ⟨e, _, hx⟩ := List.mem_flatMap.1 hx
  simp [y8] at hx
  rcases hx with rfl | rfl <;> rfl
theorem XR : (prog.info? 218).map (fun i => (i.zero, i.size, i.bytes)) = some (some (.agg #[.string .empty, .int .i64 0]), 2, 24) := by kernel_rfl
theorem KA (H : V w0 w F) (hr : Ul w0 F 2 v hl.length (hl.flatMap y8)) (hb : hl.length ≤ 1099511627776) :
    gI prog 150 #[v] w fun v' w' => V w0 w' (Row 218 2 v' hl.length (hl.flatMap y8) • F) := by
  obtain ⟨hlen, a, c, rfl, h1, h2, h3⟩ := hr w H
  refine gG func150 ntmps150 ?_
  refine jg O (aP (bP O (aV (zq fB O O) ?_)))
  refine jh O (fun h1 => ?_) (fun h1 => ?_)
  · (try simp only [Z] at h1)
    refine jC O (aF (dG results150 O ?_))
    obtain rfl : a = none := by simpa using h1
    obtain rfl : hl = [] := by
      cases hl with
      | nil => rfl
      | cons x l => obtain ⟨b, o, e, _⟩ := h3 (by simp); cases e
    exact H.iP none
  · (try simp only [Z] at h1)
    refine fZ (iE (jr (Gl H fB sizeOf218 zeroValue218) ?_))
    rintro _ w1 H1
    refine bQ O (jr (fQ H1 fB XR O O O (hr.under _ H1) QN (by omega) (by omega)) ?_)
    rintro _ w2 H2
    refine eY O (dG results150 O ?_)
    exact H2.of_eq (by rw [Nat.zero_add, List.nil_append])
theorem AV (H : V w0 w (gQ p hl base most • F)) : gI prog 149 #[.pointer (some ⟨p, 0, none⟩)] w fun v w' => v = .bool false ∧ w = w' := by
 refine gG func149 ntmps149 ?_
 refine jg O (aP ?_)
 obtain ⟨Pq, AB, zn⟩ := (H).hist
 refine aC (bQ O (aV (fV iT O O) (jP O (fun h1 => ?_) (fun h1 => ?_))))
 ·(try simp only [Z] at h1)
  exfalso; first | contradiction | omega
 ·(try simp only [Z] at h1)
  refine bC (bQ O (bC (dJ O (bC (bD 0 kF O sizeOf151 O (bC (bD 1 kG O sizeOf2 O (bC (fG underlying2 O (zn).get.2 O (bC (aV (dV O O) (iM O O (eY O (dG results149 O ?_))))))))))))))
  exact ⟨by rw [show (base == 0) = false from by rw [beq_eq_false_iff_ne]; have := AB.2.1; omega], O⟩
theorem KC {n : Int} (H : V w0 w F) (hn : 0 ≤ n ∧ n ≤ 4096) : gI prog 55 #[.int .i64 n] w fun v w' => ∃ p, v = .tuple #[.pointer (some ⟨p, 0, none⟩), .int .i64 0] ∧ V w0 w' (gQ p [] 1 n • F) := by
  refine gG func55 ntmps55 ?_
  refine iE (fU O (vk O (bP O (aV (iL O O) (jP O (fun h1 => ?_) (fun h1 => ?_))))))
  · (try simp only [Z] at h1)
    exfalso; first | contradiction | omega
  · (try simp only [Z] at h1)
    refine bC (bQ O (bC (aV (iV O O) (iM O O (jh O (fun h2 => ?_) (fun h2 => ?_))))))
    · (try simp only [Z] at h2)
      exfalso; first | contradiction | omega
    · (try simp only [Z] at h2)
      refine fZ (bP O (aV (oZ (pl := #[(0, 1), (1, 1), (2, 1)]) (#[_, _, _]) kG zeroValue151 (fun w => by kernel_rfl) O (O)) (aV (oZ (pl := #[(0, 3)]) (#[_, _, _]) kF zeroValue153 (fun w => by kernel_rfl) O (O)) (jr (iD (l := [_, _, _]) H O O) ?_))))
      rintro _ w1 ⟨b1, rfl, H1⟩
      refine fU O (eY O (Jl results55 O O ?_))
      exact ⟨_, O, V.CY (v := .slice none 0 0) ⟨by simp, by decide, by decide, by simp; omega, by omega, by simp⟩ ((H1.iP none).swap)⟩
theorem nU (H : V w0 w (gQ p hl base most • F)) : gI prog 117 #[.pointer (some ⟨p, 0, none⟩)] w fun v w' => v = .int .i64 hl.length ∧ V w0 w' (gQ p hl base most • F) := by
 refine gG func117 ntmps117 ?_
 refine jg O (aP (bP O (dS O func149 (AV H) ?_)))
 rintro _ _ ⟨rfl, rfl⟩
 refine iJ (qy (fZ (aP ?_)))
 obtain ⟨Pq, AB, zn⟩ := (H).hist
 refine aC (nD O O (bD 0 kF O sizeOf151 O (bD 0 kG O sizeOf149 O (fG fB O (zn).get.2 O (aV (jw ((zn.f2).aS) fB O) (eY O (dG results117 O ?_)))))))
 have O4 := zn.f2.f2
 have Oy := V.CY AB O4
 exact ⟨O, Oy⟩
theorem qZ (H : V w0 w (gQ p hl base most • F)) : gI prog 109 #[.pointer (some ⟨p, 0, none⟩)] w fun v w' => ∃ q, v = .pointer (some ⟨q, 0, none⟩) ∧ V w0 w' (gQ q hl base most • gQ p hl base most • F) := by
 refine gG func109 ntmps109 ?_
 refine jg O (aP (bP O (dS O func149 (AV H) ?_)))
 rintro _ _ ⟨rfl, rfl⟩
 refine iJ (qy (fZ (aP ?_)))
 obtain ⟨Pq, AB, zn⟩ := (H).hist
 have hcl := AB.1
 have AA := zn.drew
 have gX := V.kp (AA.f2.f2)
 refine yC [4, 10, 15] gX O (jG 0 O gX O (kD 1 O gX O (gV 2 O gX 0 kF O sizeOf151 O (gV 3 O gX 0 kG O sizeOf149 O (jS 4 O gX (fun W hW => jX fB O ((Kp.h hW)).get.2 O) (jG 6 O gX O (kD 7 O gX O (gV 8 O gX 0 kF O sizeOf151 O (gV 9 O gX 1 kG O sizeOf2 O (jS 10 O gX (fun W hW => jX underlying2 O ((Kp.h hW)).get.2 O) (jG 11 O gX O (kD 12 O gX O (gV 13 O gX 0 kF O sizeOf151 O (gV 14 O gX 2 kG O aj O (jS 15 O gX (fun W hW => jX aK O ((Kp.h hW)).get.2 O) (og 5 O (yF O func150 (KA AA (fun W HW => (HW.f2).aS) (by omega))) ?_))))))))))))))))
 rintro u3 w3 H3
 have yJ := V.kp (H3.f3.f3.f3)
 refine dU yJ (fun W hW => (Kp.h hW).right.f2.f2) ?_
 obtain ⟨au3, cu3, eu3, -⟩ := ((H3).aS).form
 subst eu3
 refine jB 16 O yJ (fun _ => oZ (pl := #[(0, 1), (1, 1), (2, 1)]) (#[_, _, _]) kG zeroValue151 (fun w => by kernel_rfl) O (O)) (jB 17 O yJ (fun _ => oZ (pl := #[(0, 3)]) (#[_, _, _]) kF zeroValue153 (fun w => by kernel_rfl) O (O)) (og 18 O (iD (l := [_, _, _]) H3 O O) ?_))
 rintro _ w4 ⟨b4, rfl, H4⟩
 have xu := V.kp (H4.f4.f4.f4.f4)
 refine gW xu (by kernel_rfl) ?_
 refine jB 19 O xu (fun _ => dN O) (qR (aX (mD (dG results109 O ?_))))
 have XT := H4.f4.f4
 have XU := V.CY AB XT
 exact ⟨_, O, V.CY AB XU.f3.f3⟩
end
end Go.Proofs.YtpdeedplgmbopaaGreatDoor
end
section
namespace Go.Proofs.YtpdeedplgmbopaaGreatDoor
open Go.RowKit
def wL {β : Type} (f : Int → β) (a : Int) (v : β) : Int → β := fun x => if x = a then v else f x
theorem nN {β : Type} (f : Int → β) (a : Int) (v : β) : wL f a v a = v := if_pos rfl
theorem tq {β : Type} (f : Int → β) {a x : Int} (v : β) (h : x ≠ a) : wL f a v x = f x := if_neg h
structure lZ where
  L : List Int
  pt : Int
  mark : Int
  E : List (List Int)
  at_ : Nat
  place : Int
  tx : Int → Option ByteArray
  un : Int → List (List iR)
  mode : Int
  over : Bool
  last : Int
  fr : Int
  to : Int
  res : Int
  run : Bool
structure dF where
  c : lZ
  hl : List pz
  base : Int
  most : Int
  qL : Int
  given : Bool
  minus : Bool
  arg : Int
  inn : Bool
  was : lZ
  cls : Int
  killed : Bool
  lu : Bool
  argues : Bool
  whole : Bool
  put : List iR
def MH (hl : List pz) (k : Int) : pz := if 0 ≤ k ∧ k < hl.length then hl.getD k.toNat default else (.empty, 0)
def yP (hl : List pz) (k : Int) : ByteArray := (MH hl k).1
def jm (hl : List pz) (tx : Int → Option ByteArray) (k : Int) : ByteArray := (tx k).getD (yP hl k)
def Ah (hl : List pz) (tx : Int → Option ByteArray) (place : Int) (k : Nat) : Bool := decide ((k : Int) ≠ place) && !((jm hl tx k).toList == (yP hl k).toList)
def pF (hl : List pz) (tx : Int → Option ByteArray) (place : Int) (n : Nat) : List (Int × ByteArray) := ((List.range n).filter (Ah hl tx place)).map fun (k : Nat) => ((k : Int), jm hl tx k)
def yQ (hl : List pz) (tx : Int → Option ByteArray) (place : Int) : List (Int × ByteArray) := pF hl tx place hl.length ++ (if place ≠ hl.length then [((hl.length : Int), jm hl tx hl.length)] else [])
def pY (G : List (List iR)) (inn : Bool) (put : List iR) (typed run : Bool) : Int := (G.length : Int) + if inn && !put.isEmpty && !(typed && run) then 1 else 0
namespace dF
variable (s : dF)
def here : List (List iR) := s.c.un s.c.place
def vX (G : List (List iR)) : dF := { s with c := { s.c with un := wL s.c.un s.c.place G } }
def yc : Int := if s.inn then 0 else 1
def BA : Int := if s.inn then 1 else 0
def jW : dF := if s.inn then s else { s with inn := true, was := s.c, cls := 0, killed := false, lu := false, argues := false, whole := true, put := [] }
def kT (on : Bool) : List (List iR) := if s.put = [] then s.here else if on then (match s.here.getLast? with | some g => s.here.dropLast ++ [g ++ s.put] | none => [s.put]) else s.here ++ [s.put]
def gK (on : Bool) : dF := if s.put = [] then s else { s.vX (s.kT on) with put := [] }
def zM : dF := { s with given := false, minus := false, arg := -1 }
def zK (err : Int) : Int := if s.inn then err else 1
def xB : dF := { s.zM with inn := false, c := { s.was with last := 0, fr := 0, to := 0 }, qL := IntKind.i64.wrap (s.qL + 1), put := [] }
def typed : Bool := s.cls == 3 && s.whole
def jT : dF := { (if s.argues then s else s.zM) with inn := false }
def oK : dF :=
  let t := s.jT.gK (s.typed && s.c.run)
  let c := { t.c with run := s.typed && (!s.put.isEmpty || s.c.run), last := s.cls }
  { t with c := if s.cls ≠ 2 then { c with fr := 0, to := 0 } else c }
def BD (err : Int) : dF := if s.inn then (if err = 0 then s.oK else s.xB) else s
def QO (x : iR) : dF :=
  if x.2.1.length + x.2.2.length = 0 then s else
  if 16384 ≤ iG s.here s.put then { s.vX [] with put := [x], c := { (s.vX []).c with run := false } } else { s with put := s.put ++ [x] }
def yR (L : List Int) (pt mk : Int) : dF := { s with c := { s.c with L := L, pt := pt, mark := mk } }
def KD (i j : Int) (l : List Int) : Int := if s.inn then Eo s.c.L i j l else 1
def QS (i j : Int) (l : List Int) : dF := if s.inn then (s.yR (YX s.c.L i j l) (YZ s.c.L s.c.pt i j l) (Y0 s.c.L s.c.mark i j l)).QO (abm s.c.L i j l, abn s.c.L i j l, abo s.c.L i j l) else s
def acZ (l : List Int) : Int := s.KD s.c.pt s.c.pt l
def ac0 (l : List Int) : dF := s.QS s.c.pt s.c.pt l
def Vb (l : List Int) : Int := if s.c.over then min (s.c.pt + l.length) s.c.L.length else s.c.pt
def abJ (l : List Int) : Int := s.KD s.c.pt (s.Vb l) l
def ael (l : List Int) : dF := if s.inn then (let t := s.QS s.c.pt (s.Vb l) l; if s.abJ l = 0 ∧ s.cls = 0 then { t with cls := 3 } else t) else s
def way (back : Bool) : Int := if s.c.last = 1 ∨ s.killed = true then (if back then 2 else 1) else 0
def KE (i j : Int) : Prop := i < 0 ∨ s.c.L.length < i ∨ j < i ∨ s.c.L.length < j
instance (i j : Int) : Decidable (s.KE i j) := by unfold KE; infer_instance
def cut (i j : Int) : List Int := (s.c.L.drop i.toNat).take (j.toNat - i.toNat)
def Vd (i j : Int) (back : Bool) : Int × List (List Int) × Nat := abz s.c.E s.c.at_ (s.way back) (s.cut i j)
def QT (i j : Int) (back : Bool) : Int := if s.inn then (if s.KE i j then 70 else (s.Vd i j back).1) else 1
def XV (E : List (List Int)) (a : Nat) : dF := { s with c := { s.c with E := E, at_ := a } }
def Y7 (i j : Int) (back : Bool) : dF := if s.QT i j back = 0 then { s.XV (s.Vd i j back).2.1 (s.Vd i j back).2.2 with killed := true, cls := 1 } else s
def aem (i j : Int) (back : Bool) : Int := if s.QT i j back = 0 then (s.Y7 i j back).KD i j [] else s.QT i j back
def aen (i j : Int) (back : Bool) : dF := if s.QT i j back = 0 then (s.Y7 i j back).QS i j [] else s
def top : List Int := s.c.E.getD s.c.at_ []
def abK : Int := if s.inn then (if s.c.E.length = 0 then 6 else s.acZ s.top) else 1
def aeo : dF :=
  if s.abK = 0 then
    let t := s.ac0 s.top
    { t with lu := true, cls := 2, c := { t.c with mark := smM t.c.L t.c.mark s.c.pt, fr := s.c.pt, to := s.c.pt + s.top.length } }
  else s
def Z7 (n : Int) : List Int := s.c.E.getD (DL s.c.E.length s.c.at_ n) []
def ac1 (n : Int) : Int := if s.inn then (if s.c.last ≠ 2 ∨ s.lu = true then 6 else if s.c.E.length = 0 then 6 else s.KD s.c.fr s.c.to (s.Z7 n)) else 1
def aeM (n : Int) : dF :=
  if s.ac1 n = 0 then
    let t := s.QS s.c.fr s.c.to (s.Z7 n)
    { t with lu := true, cls := 2, c := { t.c with E := s.c.E, at_ := DL s.c.E.length s.c.at_ n, fr := s.c.fr, to := s.c.fr + (s.Z7 n).length } }
  else s
def kills : List (List Int) := s.c.E.drop s.c.at_ ++ s.c.E.take s.c.at_
def Js (x : Int) : Int := if s.inn then mvE s.c.L.length x else 1
def Eu (x : Int) : dF := if s.inn then s.yR s.c.L (mvP s.c.L.length s.c.pt x) s.c.mark else s
def aep (x : Int) : Int := if s.inn then smE s.c.L x else 1
def aeq (x : Int) : dF := if s.inn then s.yR s.c.L s.c.pt (smM s.c.L s.c.mark x) else s
def aer : Int := if s.inn then swE s.c.mark else 1
def aes : dF := if s.inn then s.yR s.c.L (swP s.c.pt s.c.mark) (swM s.c.pt s.c.mark) else s
def ac2 (b : List Int × Int × Int) (x : iR) : List Int × Int × Int := (acR b.1 x.1 x.2.1 x.2.2, acS b.1 b.2.1 x.1 x.2.1 x.2.2, acT b.1 b.2.2 x.1 x.2.1 x.2.2)
def apps (b : List Int × Int × Int) (l : List iR) : List Int × Int × Int := l.foldl ac2 b
def Y8 (l : List iR) : dF := let b := apps (s.c.L, s.c.pt, s.c.mark) l; s.yR b.1 b.2.1 b.2.2
def QU : dF := { s with whole := false, c := { s.c with run := false } }
def aeu : dF := if s.inn then (let t := s.gK false; if t.here = [] then t else ((t.vX t.here.dropLast).Y8 ((t.here.getLastD []).reverse.map Gg)).QU) else s
def U2 : Int := if s.inn then (if (s.gK false).here = [] then 6 else 0) else 1
def aeN : dF := if s.inn then (let t := s.gK false; if t.here = [] then t else ((t.vX []).Y8 (t.here.flatten.reverse.map Gg)).QU) else s
def Z8 (d : Int) : Int := if s.inn then (if d < 0 ∨ 9 < d then 1 else 0) else 1
def ac3 (d : Int) : dF := if s.Z8 d = 0 then { s with given := true, argues := true, arg := min (max s.arg 0 * 10 + d) 1000000 } else s
def aeO : dF := if s.inn then { s with given := true, argues := true, minus := !s.minus } else s
def ac4 (n : Int) : Int := if s.inn then (if 1000000 < n ∨ n < -1000000 then 1 else 0) else 1
def aeP (n : Int) : dF := if s.ac4 n = 0 then { s with given := true, argues := true, minus := decide (n < 0), arg := max n (-n) } else s
def count : Int := if s.given then (let n := if s.arg < 0 then 1 else s.arg; if s.minus then -n else n) else 1
def ru (m : Int) : Int := if s.inn then (if m < 0 ∨ 2 < m then 1 else 0) else 1
def yg (m : Int) : dF := if s.ru m = 0 then { s with c := { s.c with mode := m } } else s
def aev (b : Bool) : dF := if s.inn then { s with c := { s.c with over := b } } else s
def ac5 (r : Int) : Int := if s.inn then (if r < 1 ∨ 3 < r then 1 else 0) else 1
def aeQ (r : Int) : dF := if s.ac5 r = 0 then { s with c := { s.c with res := r } } else s
def first (k : Int) : ByteArray := yP s.hl k
def stands (k : Int) : ByteArray := (s.c.tx k).getD (s.first k)
def Ve : Int := pY s.here s.inn s.put s.typed s.c.run
def saved : List (Int × ByteArray) := yQ s.hl s.c.tx s.c.place
def y9 : Int := if s.inn then s.was.last else s.c.last
def Ua : Int := if s.inn then s.was.fr else s.c.fr
def Ub : Int := if s.inn then s.was.to else s.c.to
end dF
def lZ.fresh (l : List Int) (E : List (List Int)) (a : Nat) (place mode : Int) : lZ := ⟨l, l.length, -1, E, a, place, fun _ => none, fun _ => [], mode, false, 0, 0, 0, 0, false⟩
def dF.start (s : dF) (hl : List pz) (base most : Int) (l : List Int) : dF := { s with c := lZ.fresh l s.c.E s.c.at_ hl.length s.c.mode, hl := hl, base := base, most := most, given := false, minus := false, arg := -1 }
def dF.new (hl : List pz) (base most : Int) : dF :=
  let c := lZ.fresh [] [] 0 hl.length 0
  { c := c, hl := hl, base := base, most := most, qL := 0, given := false, minus := false, arg := -1, inn := false, was := c, cls := 0, killed := false, lu := false, argues := false, whole := false, put := [] }
end Go.Proofs.YtpdeedplgmbopaaGreatDoor
end
section
namespace Go.Proofs.YtpdeedplgmbopaaGreatDoor
open Go.RowKit Go.MapKept
structure Key (α : Type) where
  mkKey ::
  d : TypeDesc
  mk : α → Value
  key : ∀ a, IsKey d (mk a)
  inj : ∀ a b, mk a = mk b → a = b
  onto : ∀ v, IsKey d v → ∃ a, mk a = v
def vY (k : IntKind) : Key Int := ⟨.int k, .int k, fun _ => rfl, fun _ _ h => by cases h; rfl, fun v h => by
  cases v <;> simp [IsKey] at h
  subst h
  exact ⟨_, rfl⟩⟩
abbrev qE : Key Int := vY .i64
abbrev SE : Key Int := vY .i32
def aeR : Key ByteArray := ⟨.string, .string, fun _ => trivial, fun _ _ h => by cases h; rfl, fun v h => by
  cases v <;> simp [IsKey] at h
  exact ⟨_, rfl⟩⟩
section
variable {α : Type} {K : Key α} {f : α → Option Value} {es : Array MapEntry} {clock : Nat}
def AX (K : Key α) (f : α → Option Value) (es : Array MapEntry) (clock : Nat) : Prop :=
  Stamped es clock ∧ (∀ x ∈ es.toList, IsKey K.d x.key) ∧ ∀ a v, f a = some v ↔ ∃ x ∈ es.toList, x.key = K.mk a ∧ x.val = v
def fD (K : Key α) (b : Nat) (f : α → Option Value) : HP := rH fun (x : Array MapEntry × Nat) => fact (AX K f x.1 x.2) • dK b (.map x.1 x.2)
def upd [DecidableEq α] {β : Type} (f : α → Option β) (a : α) (v : β) : α → Option β := fun x => if x = a then some v else f x
theorem AX.same (h : AX K f es clock) {x y : MapEntry} (hx : x ∈ es.toList) (hy : y ∈ es.toList) (e : x.key = y.key) : x = y := by
  have hn := h.1.2.2
  rw [List.Nodup, List.pairwise_map] at hn
  exact yh hn hx hy e
where
  yh : ∀ {l : List MapEntry}, l.Pairwise (fun x y => x.key ≠ y.key) → ∀ {x y : MapEntry}, x ∈ l → y ∈ l → x.key = y.key → x = y
    | [], _, _, _, hx, _, _ => by cases hx
    | z :: l, hp, x, y, hx, hy, e => by
      rw [List.pairwise_cons] at hp
      rcases List.mem_cons.1 hx with hx1 | hx1
      · rcases List.mem_cons.1 hy with hy1 | hy1
        · rw [hx1, hy1]
        · exact absurd (by rw [← hx1]; exact e) (hp.1 _ hy1)
      · rcases List.mem_cons.1 hy with hy1 | hy1
        · exact absurd (by rw [← hy1]; exact e.symm) (hp.1 _ hx1)
        · exact yh hp.2 hx1 hy1 e
theorem QV : ∀ {l : List MapEntry}, (l.map (·.born)).Nodup → ∀ {x y : MapEntry}, x ∈ l → y ∈ l → x.born = y.born → x = y
  | [], _, _, _, hx, _, _ => by cases hx
  | z :: l, hp, x, y, hx, hy, e => by
    rw [List.map_cons, List.nodup_cons] at hp
    rcases List.mem_cons.1 hx with hx1 | hx1
    · rcases List.mem_cons.1 hy with hy1 | hy1
      · rw [hx1, hy1]
      · exact absurd (List.mem_map.2 ⟨y, hy1, by rw [← hx1]; exact e.symm⟩) hp.1
    · rcases List.mem_cons.1 hy with hy1 | hy1
      · exact absurd (List.mem_map.2 ⟨x, hx1, by rw [← hy1]; exact e⟩) hp.1
      · exact QV hp.2 hx1 hy1 e
theorem AX.find (h : AX K f es clock) (a : α) : (Instr.findNow K.d (K.mk a) es.toList 0 = some none ∧ f a = none ∧ ∀ x ∈ es.toList, x.key ≠ K.mk a) ∨
    ∃ j e, Instr.findNow K.d (K.mk a) es.toList 0 = some (some (j, e.val)) ∧ es.toList[j]? = some e ∧ e.key = K.mk a ∧ f a = some e.val := by
  rcases findNow_spec (K.key a) es.toList 0 h.2.1 with ⟨h1, h2⟩ | ⟨j, e, h1, h2, h3⟩
  · refine .inl ⟨h1, ?_, h2⟩
    cases hf : f a with
    | none => rfl
    | some v =>
      obtain ⟨x, hx, hk, _⟩ := (h.2.2 a v).1 hf
      exact absurd hk (h2 x hx)
  · refine .inr ⟨j, e, by simpa using h1, h2, h3, (h.2.2 a e.val).2 ⟨e, List.mem_of_getElem? h2, h3, rfl⟩⟩
theorem MI (K : Key α) : AX K (fun _ => none) #[] 0 := ⟨stamped_empty 0, by simp, by simp⟩
end
section
variable {α : Type} {K : Key α} {f : α → Option Value} {es : Array MapEntry} {clock : Nat} {P : Program} {L : List (Nat × Value)} {w w0 : World} {ty : TypeId} {x y z : Operand} {F : HP} {b it n : Nat} {a : α} {S : List α}
theorem V.map (H : V w0 w (fD K b f • F)) : ∃ es clock, AX K f es clock ∧ V w0 w (dK b (.map es clock) • F) := by
  obtain ⟨⟨es, clock⟩, H⟩ := H.lJ
  obtain ⟨h, H⟩ := H.flat.fact
  exact ⟨es, clock, h, H⟩
theorem V.KF (h : AX K f es clock) (H : V w0 w (dK b (.map es clock) • F)) : V w0 w (fD K b f • F) := V.iy (es, clock) (V.deep (V.jY h H))
theorem MJ {t kt et : TypeId} {zv : Value} (ok : Bool) (h : AX K f es clock) (hb : w.heap[b]? = some (.map es clock)) (ht : P.underlying t = some (.map kt et)) (hk : P.underlying kt = some K.d) (hz : (zeroValue et).run P w = .ok zv w) :
    (Instr.lookup t (.map (some b)) (K.mk a) ok).run P w = .ok (if ok then .tuple #[(f a).getD zv, .bool (f a).isSome] else (f a).getD zv) w := by
  rcases h.find a with ⟨h1, h2, _⟩ | ⟨j, e, h1, h2, h3, h4⟩
  · simp [Instr.lookup, run_underlying ht, MapKept.run_getObj_map hb, MapKept.run_checkKey hk (K.key a), MapKept.run_findKey hk h1, hz, Result.andThen, h2]
  · simp [Instr.lookup, run_underlying ht, MapKept.run_getObj_map hb, MapKept.run_checkKey hk (K.key a), MapKept.run_findKey hk h1, Result.andThen, h4]
theorem MK {t kt et : TypeId} {zv : Value} (H : V w0 w (fD K b f • F)) (ht : P.underlying t = some (.map kt et)) (hk : P.underlying kt = some K.d) (hz : ∀ w, (zeroValue et).run P w = .ok zv w)
    (hx : ev L x = some (.map (some b))) (hy : ev L y = some (K.mk a)) : Val P L (.lookup t x y false) ty w ((f a).getD zv) w := fun ρ hρ _ _ _ _ => by
  obtain ⟨es, clock, h, H⟩ := H.map
  simp only [execOp, hρ _ _ hx, hρ _ _ hy, Sem.run_bind]
  rw [MJ false h H.get.2 ht hk (hz w)]
  rfl
theorem zN {t kt et : TypeId} {zv : Value} (H : V w0 w (fD K b f • F)) (ht : P.underlying t = some (.map kt et)) (hk : P.underlying kt = some K.d) (hz : ∀ w, (zeroValue et).run P w = .ok zv w)
    (hx : ev L x = some (.map (some b))) (hy : ev L y = some (K.mk a)) : Val P L (.lookup t x y true) ty w (.tuple #[(f a).getD zv, .bool (f a).isSome]) w := fun ρ hρ _ _ _ _ => by
  obtain ⟨es, clock, h, H⟩ := H.map
  simp only [execOp, hρ _ _ hx, hρ _ _ hy, Sem.run_bind]
  rw [MJ true h H.get.2 ht hk (hz w)]
  rfl
theorem jH {t : TypeId} (K : Key α) (H : V w0 w F) : ug P L (.makeMap t none) ty w fun v w' => ∃ b, v = .map (some b) ∧ V w0 w' (fD K b (fun _ => none) • F) := by
  refine vK (v := .map (some w.heap.size)) (w' := w.alloc (.map #[] 0)) ?_ ⟨_, rfl, V.KF (MI K) (H.alloc _)⟩
  intro ρ hρ d pos nC g
  simp only [execOp, Sem.run_bind, Option.map_none]
  rfl
theorem ML {o : Obj} {b : Nat} (h : w.heap[b]? = some o) (o' : Obj) : ({ w with heap := w.heap.setIfInBounds b o' } : World).heap[b]? = some o' ∧ ∀ k, k ≠ b → ({ w with heap := w.heap.setIfInBounds b o' } : World).heap[k]? = w.heap[k]? := by
  have hlt := lt_of_block h
  exact ⟨by simp [hlt], fun k hk => by simp [Ne.symm hk]⟩
theorem V.setB {o : Obj} (H : V w0 w (dK b o • F)) (o' : Obj) : V w0 (ChangeMaps.setBlock w b o') (dK b o' • F) :=
  V.turn (w := w) (w' := ChangeMaps.setBlock w b o') H rfl rfl rfl (by simp [ChangeMaps.setBlock]) (ML H.get.2 o').1 fun k hk _ => (ML H.get.2 o').2 k hk
theorem tu [DecidableEq α] {t kt et : TypeId} {v : Value} (H : V w0 w (fD K b f • F)) (ht : P.underlying t = some (.map kt et)) (hk : P.underlying kt = some K.d)
    (hx : ev L x = some (.map (some b))) (hy : ev L y = some (K.mk a)) (hz : ev L z = some v) : ug P L (.mapUpdate t x y z) ty w fun _ w' => V w0 w' (fD K b (upd f a v) • F) := by
  obtain ⟨es, clock, h, H⟩ := H.map
  have hb := H.get.2
  rcases h.find a with ⟨h1, h2, h3⟩ | ⟨j, e, h1, h2, h3, h4⟩
  · have hrun : (Instr.mapUpdate t (.map (some b)) (K.mk a) v).run P w = .ok () (ChangeMaps.setBlock w b (.map (es.push { key := K.mk a, val := v, born := clock }) (clock + 1))) := by
      simp [ChangeMaps.setBlock, Instr.mapUpdate, run_underlying ht, MapKept.run_getObj_map hb, MapKept.run_checkKey hk (K.key a), MapKept.run_findKey hk h1, MapKept.run_setObj_map _ hb, Result.andThen]
    refine FB (w' := ChangeMaps.setBlock w b (.map (es.push { key := K.mk a, val := v, born := clock }) (clock + 1))) (fun ρ hρ d pos nC g => ?_) (V.KF (es := es.push { key := K.mk a, val := v, born := clock }) (clock := clock + 1) ⟨stamped_push h.1 h3, ?_, ?_⟩ (H.setB _))
    · simp only [execOp, hρ _ _ hx, hρ _ _ hy, hρ _ _ hz, Sem.run_bind]
      rw [hrun]; rfl
    · intro q hq
      simp only [Array.toList_push, List.mem_append, List.mem_singleton] at hq
      rcases hq with hq | rfl
      · exact h.2.1 q hq
      · exact K.key a
    · intro c u
      simp only [Array.toList_push, List.mem_append, List.mem_singleton, upd]
      by_cases hc : c = a
      · subst hc
        rw [if_pos rfl]
        constructor
        · intro hu; cases hu; exact ⟨_, .inr rfl, rfl, rfl⟩
        · rintro ⟨q, hq | rfl, hqk, Vf⟩
          · exact absurd hqk (h3 q hq)
          · rw [← Vf]
      · rw [if_neg hc, h.2.2 c u]
        constructor
        · rintro ⟨q, hq, hqk, Vf⟩; exact ⟨q, .inl hq, hqk, Vf⟩
        · rintro ⟨q, hq | rfl, hqk, Vf⟩
          · exact ⟨q, hq, hqk, Vf⟩
          · exact absurd (K.inj _ _ hqk).symm hc
  · have hj : es[j]? = some e := by simpa using h2
    have hrun : (Instr.mapUpdate t (.map (some b)) (K.mk a) v).run P w = .ok () (ChangeMaps.setBlock w b (.map (es.modify j fun e => { e with key := K.mk a, val := v }) clock)) := by
      simp [ChangeMaps.setBlock, Instr.mapUpdate, run_underlying ht, MapKept.run_getObj_map hb, MapKept.run_checkKey hk (K.key a), MapKept.run_findKey hk h1, hj, h3, MapKept.run_keyThatStays (K.key a), MapKept.run_setObj_map _ hb, Result.andThen]
    have hkey : ∀ e', es[j]? = some e' → ({ e' with key := K.mk a, val := v } : MapEntry).key = e'.key := fun e' he' => by rw [hj] at he'; cases he'; exact h3.symm
    have hst : Stamped (es.modify j fun e => { e with key := K.mk a, val := v }) clock := stamped_modify h.1 _ _ (fun _ _ => rfl) (fun e' _ he' => hkey e' he')
    have hmem : ∀ q, q ∈ (es.modify j fun e => { e with key := K.mk a, val := v }).toList ↔ (q = { e with key := K.mk a, val := v } ∨ q ∈ es.toList ∧ q.key ≠ K.mk a) := by
      intro q
      have hee : e ∈ es.toList := List.mem_of_getElem? h2
      constructor
      · intro hq
        obtain ⟨i, hi⟩ := List.getElem?_of_mem hq
        rw [Array.getElem?_toList, Array.getElem?_modify] at hi
        by_cases hij : j = i
        · subst hij
          rw [if_pos rfl, hj] at hi
          exact .inl (by simpa using hi.symm)
        · rw [if_neg hij] at hi
          have hqm : q ∈ es.toList := Array.mem_toList_iff.2 (Array.mem_of_getElem? hi)
          refine .inr ⟨hqm, fun hqk => ?_⟩
          have he : q = e := h.same hqm hee (hqk.trans h3.symm)
          subst he
          have hn := h.1.2.1
          have h5 : (es.toList.map (·.born))[i]? = some q.born := by rw [List.getElem?_map, Array.getElem?_toList, hi]; rfl
          have h6 : (es.toList.map (·.born))[j]? = some q.born := by rw [List.getElem?_map, h2]; rfl
          have hlt : i < (es.toList.map (·.born)).length := (List.getElem?_eq_some_iff.1 h5).1
          have hlt2 : j < (es.toList.map (·.born)).length := (List.getElem?_eq_some_iff.1 h6).1
          exact hij ((List.getElem?_inj hlt2 hn).1 (h6.trans h5.symm))
      · rintro (rfl | ⟨hq, hqk⟩)
        · apply List.mem_of_getElem? (i := j)
          rw [Array.getElem?_toList, Array.getElem?_modify, if_pos rfl, hj]; rfl
        · obtain ⟨i, hi⟩ := List.getElem?_of_mem hq
          have hij : j ≠ i := by
            rintro rfl
            rw [h2] at hi; cases hi
            exact hqk h3
          apply List.mem_of_getElem? (i := i)
          rw [Array.getElem?_toList, Array.getElem?_modify, if_neg hij]
          rwa [Array.getElem?_toList] at hi
    refine FB (w' := ChangeMaps.setBlock w b (.map (es.modify j fun e => { e with key := K.mk a, val := v }) clock)) (fun ρ hρ d pos nC g => ?_) (V.KF (es := es.modify j fun e => { e with key := K.mk a, val := v }) (clock := clock) ⟨hst, isKey_modify h.2.1 _ _ hkey, ?_⟩ (H.setB _))
    · simp only [execOp, hρ _ _ hx, hρ _ _ hy, hρ _ _ hz, Sem.run_bind]
      rw [hrun]; rfl
    · intro c u
      simp only [hmem, upd]
      by_cases hc : c = a
      · subst hc
        rw [if_pos rfl]
        constructor
        · intro hu; cases hu; exact ⟨_, .inl rfl, rfl, rfl⟩
        · rintro ⟨q, rfl | ⟨hq, hqn⟩, hqk, Vf⟩
          · rw [← Vf]
          · exact absurd hqk hqn
      · rw [if_neg hc, h.2.2 c u]
        constructor
        · rintro ⟨q, hq, hqk, Vf⟩
          exact ⟨q, .inr ⟨hq, fun hqa => hc (K.inj _ _ (hqk.symm.trans hqa))⟩, hqk, Vf⟩
        · rintro ⟨q, rfl | ⟨hq, hqn⟩, hqk, Vf⟩
          · exact absurd (K.inj _ _ hqk).symm hc
          · exact ⟨q, hq, hqk, Vf⟩
def Z9 (K : Key α) (f : α → Option Value) (es : Array MapEntry) (clock : Nat) (seen : Array Nat) (S : List α) (n : Nat) : Prop :=
  AX K f es clock ∧ (∃ xs : List MapEntry, (∀ x ∈ xs, x ∈ es.toList) ∧ seen.toList = xs.map (·.born) ∧ xs.map (·.key) = S.map K.mk) ∧ (leftOf es seen).size = n
def AY (K : Key α) (b it : Nat) (f : α → Option Value) (S : List α) (n : Nat) : HP := rH fun (x : Array MapEntry × Nat × Array Nat) => fact (Z9 K f x.1 x.2.1 x.2.2 S n) • dK it (.mapIter (some b) x.2.1 x.2.2 x.2.1) • dK b (.map x.1 x.2.1)
theorem V.Vg (H : V w0 w (AY K b it f S n • F)) : ∃ es clock seen, Z9 K f es clock seen S n ∧ V w0 w (dK it (.mapIter (some b) clock seen clock) • dK b (.map es clock) • F) := by
  obtain ⟨⟨es, clock, seen⟩, H⟩ := H.lJ
  obtain ⟨h, H⟩ := H.flat.fact
  exact ⟨es, clock, seen, h, H.flat⟩
theorem V.Gm {seen : Array Nat} (h : Z9 K f es clock seen S n) (H : V w0 w (dK it (.mapIter (some b) clock seen clock) • dK b (.map es clock) • F)) : V w0 w (AY K b it f S n • F) :=
  V.iy (es, clock, seen) (V.deep (V.jY h (H.of_eq (by ac_rfl))))
theorem V.DV (H : V w0 w (AY K b it f S n • F)) : V w0 w (fD K b f • F) := by
  obtain ⟨es, clock, seen, h, H⟩ := H.Vg
  exact V.KF h.1 H.right
theorem zO {t kt et : TypeId} (H : V w0 w (fD K b f • F)) (ht : P.underlying t = some (.map kt et)) (hx : ev L x = some (.map (some b))) :
    ug P L (.range t x) ty w fun v w' => ∃ it n, v = .pointer (some ⟨it, 0, none⟩) ∧ V w0 w' (AY K b it f [] n • F) := by
  obtain ⟨es, clock, h, H⟩ := H.map
  refine vK (v := .pointer (some ⟨w.heap.size, 0, none⟩)) (w' := w.alloc (.mapIter (some b) clock #[] clock)) ?_ ⟨_, _, rfl, V.Gm ⟨h, ⟨[], by simp, rfl, rfl⟩, rfl⟩ (H.alloc _)⟩
  intro ρ hρ d pos nC g
  simp only [execOp, hρ _ _ hx, Sem.run_bind]
  rw [run_range_map w t kt et b es clock ht H.get.2]
  rfl
def nxV (K : Key α) : Option (α × Value) → Value
  | some (a, u) => .tuple #[.bool true, K.mk a, u]
  | none => .tuple #[.bool false]
def ac6 (f : α → Option Value) (S : List α) (n : Nat) (S' : List α) (n' : Nat) : Option (α × Value) → Prop
  | some (a, u) => f a = some u ∧ a ∉ S ∧ n' < n ∧ S' = S ++ [a]
  | none => S' = S ∧ n' = n ∧ ∀ a u, f a = some u → a ∈ S
theorem XW {es : Array MapEntry} {seen : Array Nat} {e : MapEntry} (he : e ∈ (leftOf es seen).toList) : (leftOf es (seen.push e.born)).size < (leftOf es seen).size := by
  unfold leftOf at *
  rw [Array.toList_filter, List.mem_filter] at he
  have e1 : ∀ q : MapEntry → Bool, (es.filter q).size = (es.toList.filter q).length := fun q => by rw [← Array.toList_filter, Array.length_toList]
  rw [e1, e1]
  refine filter_lt _ _ (fun x hx => ?_) e he.2 ?_ es.toList he.1
  · simp only [Bool.not_eq_true', Array.contains_push, Bool.or_eq_false_iff] at hx ⊢
    exact hx.1
  · simp
theorem BF (H : V w0 w (AY K b it f S n • F)) (hx : ev L x = some (.pointer (some ⟨it, 0, none⟩))) :
    ug P L (.next x false) ty w fun v w' => ∃ o S' n', v = nxV K o ∧ ac6 f S n S' n' o ∧ V w0 w' (AY K b it f S' n' • F) := by
  obtain ⟨es, clock, seen, ⟨hm, ⟨xs, hxs, hse, hS⟩, hn⟩, H⟩ := H.Vg
  have hr := H.get.2
  have hb := H.swap.get.2
  rcases run_next_at (P := P) w ty it b clock clock seen es clock hr hb hm.1.1 (Nat.le_refl _) with ⟨h0, hrun⟩ | ⟨e, he, w1, hw1, hrun⟩
  · refine vK (v := nxV K none) (w' := w) (fun ρ hρ d pos nC g => ?_) ⟨none, S, n, rfl, ⟨rfl, rfl, fun a u ha => ?_⟩, V.Gm ⟨hm, ⟨xs, hxs, hse, hS⟩, hn⟩ H⟩
    · simp only [execOp, hρ _ _ hx, Sem.run_bind]
      rw [hrun]; rfl
    · obtain ⟨y, hy, hyk, _⟩ := (hm.2.2 a u).1 ha
      have hys : seen.contains y.born = true := by
        cases hc : seen.contains y.born with
        | true => rfl
        | false =>
          have hyl : y ∈ (leftOf es seen).toList := by unfold leftOf; rw [Array.toList_filter, List.mem_filter]; exact ⟨hy, by rw [hc]; rfl⟩
          have := List.length_pos_of_mem hyl
          rw [Array.length_toList] at this
          omega
      have abL : y.born ∈ seen.toList := by simpa using hys
      rw [hse] at abL
      obtain ⟨q, hq, hqb⟩ := List.mem_map.1 abL
      have hqy : q = y := QV hm.1.2.1 (hxs q hq) hy hqb
      subst hqy
      have : K.mk a ∈ S.map K.mk := by rw [← hS]; exact List.mem_map.2 ⟨q, hq, hyk⟩
      obtain ⟨c, hc, hce⟩ := List.mem_map.1 this
      rw [← K.inj _ _ hce]; exact hc
  · have hel : e ∈ es.toList ∧ seen.contains e.born = false := by
      have := he
      unfold leftOf at this
      rw [Array.toList_filter, List.mem_filter] at this
      exact ⟨this.1, by simpa using this.2⟩
    obtain ⟨a, ha⟩ := K.onto e.key (hm.2.1 e hel.1)
    have hfa : f a = some e.val := (hm.2.2 a e.val).2 ⟨e, hel.1, ha.symm, rfl⟩
    have hns : a ∉ S := fun hs => by
      have : K.mk a ∈ S.map K.mk := List.mem_map.2 ⟨a, hs, rfl⟩
      rw [← hS] at this
      obtain ⟨q, hq, hqk⟩ := List.mem_map.1 this
      have hqe : q = e := hm.same (hxs q hq) hel.1 (hqk.trans ha)
      subst hqe
      have h9 : q.born ∈ seen.toList := by rw [hse]; exact List.mem_map.2 ⟨q, hq, rfl⟩
      have h8 : seen.contains q.born = true := by simpa using h9
      rw [hel.2] at h8; cases h8
    have hval : Val P L (.next x false) ty w (nxV K (some (a, e.val))) (ChangeMaps.setBlock w1 it (.mapIter (some b) clock (seen.push e.born) clock)) := fun ρ hρ d pos nC g => by
      simp only [execOp, hρ _ _ hx, Sem.run_bind]
      rw [hrun]
      simp only [nxV, ha]
      rfl
    have hheap : w1.heap = w.heap := by rcases hw1 with rfl | rfl <;> rfl
    have hr1 : w1.heap[it]? = some (.mapIter (some b) clock seen clock) := by rw [hheap]; exact hr
    refine vK hval ⟨some (a, e.val), S ++ [a], (leftOf es (seen.push e.born)).size, rfl, ⟨hfa, hns, by rw [← hn]; exact XW he, rfl⟩, V.Gm (seen := seen.push e.born) ⟨hm, ⟨xs ++ [e], ?_, ?_, ?_⟩, rfl⟩ (V.setB (w := w1) (o := .mapIter (some b) clock seen clock) ?_ _)⟩
    · intro q hq
      rcases List.mem_append.1 hq with hq | hq
      · exact hxs q hq
      · rw [List.mem_singleton.1 hq]; exact hel.1
    · rw [Array.toList_push, hse, List.map_append]; rfl
    · rw [List.map_append, List.map_append, hS]; simp [ha]
    · rcases hw1 with rfl | rfl
      · exact H
      · exact H.drew
theorem Vh {o : Option (α × Value)} (hx : ev L x = some (nxV K o)) : Val P L (.extract x 0) ty w (.bool o.isSome) w := by
  cases o with
  | none => exact mG hx rfl
  | some p => obtain ⟨a, u⟩ := p; exact mG hx rfl
theorem KG {u : Value} (H : V w0 w (AY K b it f (S ++ [a]) n • F)) (hf : f a = some u) (hx : ev L x = some (.pointer (some ⟨it, 0, none⟩))) : Val P L (.entry x) ty w (.tuple #[K.mk a, u]) w := by
  obtain ⟨es, clock, seen, ⟨hm, ⟨xs, hxs, hse, hS⟩, hn⟩, H⟩ := H.Vg
  intro ρ hρ d pos nC g
  have hne : xs ≠ [] := by
    rintro rfl
    have := congrArg List.length hS
    simp at this
  obtain ⟨ys, e, rfl⟩ : ∃ ys e, xs = ys ++ [e] := ⟨xs.dropLast, xs.getLast hne, (List.dropLast_concat_getLast hne).symm⟩
  have he : e ∈ es.toList := hxs e (by simp)
  have hk : e.key = K.mk a := by
    rw [List.map_append, List.map_append] at hS
    have := List.append_inj_right' hS rfl
    simpa using this
  have hv : e.val = u := by
    have h9 := (hm.2.2 a e.val).2 ⟨e, he, hk, rfl⟩
    rw [hf] at h9; cases h9; rfl
  have hsp : seen = (ys.map (·.born)).toArray.push e.born := by
    apply Array.ext'
    rw [hse]; simp
  have hr := H.get.2
  rw [hsp] at hr
  simp only [execOp, hρ _ _ hx, Sem.run_bind]
  rw [run_entry_at w it b clock _ es clock e hr H.swap.get.2 he hm.1.2.1, hk, hv]
  rfl
end
end Go.Proofs.YtpdeedplgmbopaaGreatDoor
end
