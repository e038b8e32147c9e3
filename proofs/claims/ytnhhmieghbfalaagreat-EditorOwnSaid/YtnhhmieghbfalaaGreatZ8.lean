import Derived.Test.YtnhhmieghbfalaaGreatZ4
import Derived.Test.YtnhhmieghbfalaaGreatZ7
import Derived.Test.YtnhhmieghbfalaaGreatZ5
import Derived.Test.YtnhhmieghbfalaaGreatZ6
import Derived.Test.YtnhhmieghbfalaaGreatZ3
import Derived.Maps.RangeRun
set_option linter.unusedSimpArgs false
set_option linter.unusedVariables false
/- Texts of mine, joined, their names in short: UList5 UList6 UList7 Grp0 Hist EdM Map. -/
section
namespace Go.Proofs.YtnhhmieghbfalaaGreat
open Go.RowKit
open _root_.Go.Proofs.Tryz
def Dp (op : Int) : Int := if op = 0 then 1 else 0
def abL (G : List (List iO)) (N : List iO) (op : Int) : List (List iO) := if op = 1 then pX G N else G
def abM (N : List iO) (op : Int) : List iO := if op = 1 then [] else N
def aap (op : Int) : Int := if op = 0 then 0 else op - 1
theorem Wq {es : List fB} {k : Nat} (hk : k < es.length) : (es.take (k + 1)).map fB.says = (es.take k).map fB.says ++ [(es.getD k default).says] := by
  rw [List.take_succ_eq_append_getElem hk, List.map_append, List.getD_eq_getElem?_getD, List.getElem?_eq_getElem hk]
  rfl
section
variable {w0 w : World} {F : HP} {p : Nat} {G : List (List iO)} {N : List iO} {op : Int} {gv nv v : Value} {gs : List (Value × List fB)} {now es : List fB} {a : Int} {d z : Value} {dl il : List Int}
theorem BL (H : V w0 w (jB p G N op • F)) : iQ prog 94 #[.pointer (some ⟨p, 0, none⟩)] w fun v w' => v = .int .i64 (Dp op) ∧ V w0 w' (jB p (abL G N op) (abM N op) (aap op) • F) := by
 unfold Dp abL abM aap
 refine jH func94 ntmps94 ?_
 refine kW O (aO (bY O (fO O func115 (nR H) ?_)))
 rintro _ _ ⟨rfl, rfl⟩
 refine iF (vX (gX (aO (aO ?_))))
 obtain ⟨CP, Ai, qE, pK, nY, wV, uV, HY, Ia, Nh, rZ⟩ := (H).y5
 have hop := nY.2.2.1
 have hop2 := nY.2.2.2.1
 refine aB (lM O O (Z 0 bT O dN O (Z 2 bW O ah O (dL ay O (rZ).get.2 O (aZ (je O O) (kE O (fun h1 => ?_) (fun h1 => ?_)))))))
 ·(try simp only [aK] at h1)
  have h0 : op = 0 := by omega
  refine nM O (aV (gy results94 O ?_))
  have Nj := rZ.f5.f5.f5.f5.f5
  have JJ := V.qj nY wV uV rfl Nj
  subst h0
  exact ⟨O, JJ⟩
 ·(try simp only [aK] at h1)
  have h0 : ¬ op = 0 := by omega
  refine gX (aO (bY O (dA O (Z 0 bT O dN O (Z 2 bW O ah O (dL ay O (rZ).get.2 O (aZ (lJ O O (by omega)) (dA O (Z 0 bT O dN O (Z 2 bW O ah O (aC (st5 2 rZ ah) ?_)))))))))))
  rintro _ w6 H6
  refine pG O (dA O (Z 0 bT O dN O (Z 2 bW O ah O (dL ay O (H6).get.2 O (aZ (je O O) (kE O (fun h2 => ?_) (fun h2 => ?_)))))))
  ·(try simp only [aK] at h2)
   have h1 : op = 1 := by omega
   have PG := H6.f5.f5.f5.f5.f5
   have PI := V.qj (op := op - 1) ⟨nY.1, nY.2.1, by omega, by omega, nY.2.2.2.2⟩ wV uV rfl PG
   refine aB (dn O (fO O func127 (Dn PI) ?_))
   rintro _ w9 H9
   refine iF (nM O (gy results94 O ?_))
   subst h1
   exact ⟨O, H9⟩
  ·(try simp only [aK] at h2)
   have h1 : ¬ op = 1 := by omega
   refine gX (nM O (gy results94 O ?_))
   rw [if_neg h0, if_neg h1, if_neg h1, if_neg h0]
   exact ⟨O, V.qj ⟨nY.1, nY.2.1, by omega, by omega, nY.2.2.2.2⟩ wV uV O H6.f5.f5.f5.f5.f5⟩
theorem KO (H : V w0 w F) (hv : CJ w0 F 3 v es.length (es.flatMap fB.enc)) (he : ∀ k, k < es.length → jY w0 F .i32 (es.getD k default).d (es.getD k default).dl ∧ jY w0 F .i32 (es.getD k default).i (es.getD k default).il)
  (hB : ∀ k, k < es.length → EB (es.getD k default).says) (hL : es.length ≤ 16384) :
  iQ prog 116 #[v] w fun v' w' => ∃ fs : List fB, fs.map fB.says = es.map fB.says ∧ V w0 w' (Row 130 3 v' fs.length (fs.flatMap fB.enc) • nP fs • F) := by
 refine jH func116 ntmps116 ?_
 refine kW O (kW O (aO (bY O (aZ (fA (hv _ (H)) aQ O) (dn O (iF (bI ?_)))))))
 refine iC [(6, _), (7, _)] (fun (⟨k, u⟩ : Nat × Value) => [(3, u), (8, .int .i64 (k : Int))]) (fun (⟨k, u⟩ : Nat × Value) W => k ≤ es.length ∧ ∃ fs : List fB, fs.map fB.says = (es.take k).map fB.says ∧ V w0 W (Row 130 3 u fs.length (fs.flatMap fB.enc) • nP fs • F)) (fun (⟨k, u⟩ : Nat × Value) => es.length - k) ((0, .slice none 0 0)) uj uj ⟨by omega, [], O, (H.uF none).edL⟩ ?_
 rintro ⟨k, u⟩ w1 ⟨hk, fs, hfs, HL⟩
 dsimp only [List.cons_append, List.nil_append]
 refine lQ (aZ (iE O O) (qJ (eP O (fun h1 => ?_) (fun h1 => ?_))))
 ·(try simp only [aK] at h1)
  refine gX (aO (bI (lQ ?_)))
  obtain ⟨bv, ov, cv, ev⟩ := Rd.qP (hv _ (HL.right.right)) (by omega)
  cases ev
  refine aZ (eG aQ bF O O (by omega)) (aZ (mV (ys := [_, _, _]) (hv _ (HL.right.right)) (by omega) aP O bF O (mM fB.DY (by omega) default) O) ?_)
  have hkl : k < es.length := by omega
  obtain ⟨f1, f2⟩ := he k hkl
  obtain ⟨hb1, hb2⟩ := hB k hkl
  have hb1 : (es.getD k default).dl.length ≤ 35184372087808 := hb1
  have hb2 : (es.getD k default).il.length ≤ 35184372087808 := hb2
  have hfl : fs.length = k := by have h9 := congrArg List.length hfs; simp at h9; omega
  refine jW (gq (l := [_, _, _]) HL bV O) ?_
  rintro _ w2 ⟨b2, rfl, H2⟩
  refine aC (dD 0 (l' := [_, _, _]) (us := [_, _, _]) H2 bF O O O (aH (aW (by first | rfl | exact Rd.one (f1 _ (H2.right.right.right))) (aW (by first | rfl | exact Rd.one (f2 _ (H2.right.right.right))) bG))) O O) ?_
  rintro _ w3 H3
  refine iF (aB (dn O (aZ (dF aP O bF O O (H3).get.2) (fO O func129 (yA H3 (fun W HW => f1 _ (HW.right.right.right)) (fun W HW => f2 _ (HW.right.right.right)) (by omega) (by omega)) ?_))))
  rintro _ w4 ⟨d4, s4, rfl, H4⟩
  refine jW (lK H4 aQ bF bV O O O (by decide) (by decide)) ?_
  rintro l5 w5 H5
  refine jW (dQ H5.f5 aQ wo O O O ((H5).aG) (aH (aW (by first | rfl | exact Rd.one ((H5.f2).aG)) (aW (by first | rfl | exact Rd.one ((H5.f3).aG)) bG))) (by omega) (by omega)) ?_
  rintro l6 w6 H6
  have PK := H6.f2.right
  refine oD O (cO (aX (bC (aB (aZ (fZ O O (by omega)) (dn O (cO ?_)))))))
  refine eX ((k + 1, l6)) ?_ ?_ ?_ ?_
  ·exact uj
  ·exact uj
  ·(try dsimp only)
   first | done | exact ⟨by omega, _, by rw [List.map_append, hfs, Wq (by omega)]; rfl, (V.uo (PK.f4.right.f4.f2.f4.f4).iZ.swap.iZ.swap.f3).edL⟩
  ·(try dsimp only); omega
 ·(try simp only [aK] at h1)
  refine gY (aY (aY (dw (bC (bY O (jP O (gy results116 O ?_)))))))
  rw [List.take_of_length_le (by omega)] at hfs
  exact ⟨_, hfs, HL.f2.f2⟩
theorem V.rY {es : List fB} (H : V w0 w (nP es • F)) {k : Nat} (hk : k < es.length) : oL w .i32 (es.getD k default).d (es.getD k default).dl ∧ oL w .i32 (es.getD k default).i (es.getD k default).il := let ⟨I, h, hI⟩ := H.sV; ⟨(h k hk).1.rd hI, (h k hk).2.rd hI⟩
theorem Dq (H : V w0 w (Row 130 3 v es.length (es.flatMap fB.enc) • nP es • F)) (hB : ∀ k, k < es.length → EB (es.getD k default).says) (hL : es.length ≤ 16384) :
    iQ prog 116 #[v] w fun v' w' => ∃ fs : List fB, fs.map fB.says = es.map fB.says ∧ V w0 w' (Row 130 3 v' fs.length (fs.flatMap fB.enc) • nP fs • Row 130 3 v es.length (es.flatMap fB.enc) • nP es • F) :=
  KO H (fun W HW => HW.aG) (fun k hk => ⟨fun W HW => (HW.right.rY hk).1, fun W HW => (HW.right.rY hk).2⟩) hB hL
theorem Aj (H : V w0 w (Ey v es • F)) (hB : ∀ k, k < es.length → EB (es.getD k default).says) (hL : es.length ≤ 16384) :
    iQ prog 116 #[v] w fun v' w' => ∃ fs : List fB, fs.map fB.says = es.map fB.says ∧ V w0 w' (Row 130 3 v' fs.length (fs.flatMap fB.enc) • nP fs • Ey v es • F) :=
  KO H (fun W HW => HW.wU) (fun k hk => ⟨fun W HW => HW.ade hk, fun W HW => HW.adf hk⟩) hB hL
end
def ag9 (G : List (List iO)) (N : List iO) : List iO := (pX G N).flatten.reverse.map BK
theorem Vl (G : List (List iO)) : (G.map List.length).sum = G.flatten.length := by
  induction G with
  | nil => rfl
  | cons g G ih => simp only [List.map_cons, List.sum_cons, List.flatten_cons, List.length_append, ih]
theorem PL {G : List (List iO)} {k : Nat} (hk : k < G.length) : (G.take (k + 1)).flatten = (G.take k).flatten ++ G.getD k [] := by
  rw [List.take_succ_eq_append_getElem hk, List.flatten_append, List.getD_eq_getElem?_getD, List.getElem?_eq_getElem hk]
  simp
theorem Un (G : List (List iO)) (k : Nat) : (G.take k).flatten.length ≤ G.flatten.length := by
  conv => rhs; rw [← List.take_append_drop k G, List.flatten_append, List.length_append]
  omega
section
variable {w0 w : World} {F : HP} {p : Nat} {G : List (List iO)} {N : List iO} {op : Int} {gv nv v u : Value} {gs : List (Value × List fB)} {now es fs : List fB} {a : Int} {d z : Value} {dl il : List Int}
theorem KP (H : V w0 w (jB p G N op • F)) : iQ prog 80 #[.pointer (some ⟨p, 0, none⟩)] w fun _ w' => V w0 w' (jB p [] [] 0 • F) := by
 refine jH func80 ntmps80 ?_
 refine bY O (fO O func115 (nR H) ?_)
 rintro _ _ ⟨rfl, rfl⟩
 refine aZ (kY O) (iF (wcE O (fun h1 => ?_)))
 (try simp only [aK] at h1)
 obtain ⟨CP, Ai, qE, pK, nY, wV, uV, HY, Ia, Nh, rZ⟩ := (H).y5
 refine aB (dn O (aZ (jd (pl := #[(0, 4), (4, 1)]) (#[_, _, _, _, _]) bT zeroValue173 (fun w => by kernel_rfl) O (O)) (dA O (aC (dD 0 (l' := [_, _, _, _, _]) (us := [_, _, _, _, _]) rZ sizeOf173 O O O (aH (aH (aH (aH (aH bG))))) O O) ?_))))
 rintro _ w3 H3
 refine cO (kG (.inr O) results80 ?_)
 refine V.xG (gv := .slice none 0 0) (nv := .slice none 0 0) (gs := []) (now := []) ⟨by simp, by decide, by decide, by decide, by simp, by simp⟩ O O O ?_
 exact (((H3.f2.right.f2.right.f2.right.f2.right).uF none).FW none).of_eq (by ac_rfl)
theorem V.Ye (H : V w0 w (Ey v es • F)) : ∀ x ∈ es.flatMap fB.enc, x.oneCell' = true :=
  V.FX (es := es) (w0 := w0) (w := w) (F := F) (H.CV (oM (fun I h => h.2) F))
theorem V.F6 (H : V w0 w (qL gs • F)) {k : Nat} {gl : Value} {xQ : List fB} (hk : k < gs.length) (hg : gs.getD k default = (gl, xQ)) : V w0 w (Ey gl xQ • qL gs • F) := by
  have := H.QW hk
  rwa [hg] at this
end
theorem Ws {G : List (List iO)} {k : Nat} (hk : k < G.length) : G.take (k + 1) = G.take k ++ [G.getD k []] := by
  rw [List.take_succ_eq_append_getElem hk, List.getD_eq_getElem?_getD, List.getElem?_eq_getElem hk]
  rfl
theorem JM {G : List (List iO)} {g : List iO} (h : g ∈ G) : g.length ≤ (G.map List.length).sum := by
  induction G with
  | nil => cases h
  | cons x G ih =>
    rw [List.map_cons, List.sum_cons]
    rcases List.mem_cons.1 h with rfl | h
    · omega
    · have := ih h; omega
theorem Rf {es : List fB} {l : List iO} (h : es.map fB.says = l) (hl : ∀ e ∈ l, EB e) : ∀ k, k < es.length → EB (es.getD k default).says := fun k hk =>
  hl _ (by rw [← h]; exact List.mem_map_of_mem (wS hk))
section
variable {w0 w : World} {F : HP} {p : Nat} {G : List (List iO)} {N : List iO} {op : Int}
theorem KQ (H : V w0 w (jB p G N op • F)) : iQ prog 73 #[.pointer (some ⟨p, 0, none⟩)] w fun v w' => ∃ q, v = .pointer (some ⟨q, 0, none⟩) ∧ V w0 w' (jB q G N op • jB p G N op • F) := by
 refine jH func73 ntmps73 ?_
 refine kW O (aO (bY O (fO O func115 (nR H) ?_)))
 rintro _ _ ⟨rfl, rfl⟩
 refine iF (vX (gX (aO ?_)))
 obtain ⟨CP, Ai, qE, pK, nY, wV, uV, HY, Ia, Nh, rZ⟩ := (H).y5
 have hLn : pK.length ≤ 16384 := by omega
 have hBn := Rf uV nY.2.2.2.2.2
 refine aB (lM O O (aZ (dF bT O sizeOf173 O O (rZ).get.2) (jW (gq (l := [_, _, _, _, _]) rZ zeroValue173 O) ?_)))
 rintro _ w3 ⟨b3, rfl, H3⟩
 refine aC (dD 0 (l' := [_, _, _, _, _]) (us := [_, _, _, _, _]) H3 sizeOf173 O O O (aW (by first | rfl | exact Rd.one ((H3.f3).aG)) (aW (by first | rfl | exact Rd.one ((H3.f5).aG)) (aH (aH (aH bG))))) O O) ?_
 rintro _ w4 H4
 refine pG O (dA O (Z 0 bT O dN O (Z 1 bW O bn O (dL aQ O (H4.f2).get.2 O (fO O func116 (Dq H4.f6.f6 hBn hLn) ?_)))))
 rintro u5 w5 ⟨fs5, aeC, H5⟩
 obtain ⟨es1, rfl⟩ : ∃ q, q = fs5 := ⟨_, rfl⟩
 have hes1 := aeC
 refine Z 0 bT O dN O (Z 0 bW O gQ O (aC (st5 0 H5.f5 gQ) ?_))
 rintro _ w6 H6
 refine Z 0 bT O dN O (Z 1 bW O bn O (aC (dX 1 (l' := [_, _, _, _, _]) H6 bn O O (by first | rfl | exact Rd.one ((H6.f2).aG)) O O) ?_))
 rintro _ w7 H7
 refine qJ (bY O (dA O (Z 0 bT O dN O (Z 0 bW O gQ O (dL bJ O (H7.f6).get.2 O (aZ (fA ((H7.f7).aG) bJ O) (dn O (iF (bI ?_)))))))))
 obtain ⟨aa2, aa3, adl, -⟩ := ((H7.f7).aG).form
 subst adl
 refine iC [(3, _), (25, _), (26, _)] (fun (k : Nat) => [(27, .int .i64 (k : Int))]) (fun (k : Nat) W => k ≤ qE.length ∧ ∃ gu, ∃ hs : List (Value × List fB), hs.map (fun g => g.2.map fB.says) = G.take k ∧ V w0 W (eF b3 (.cells #[gu, u5, .int .i64 op, .int .i64 (fQ G N : Nat), .bool true] 173 (0, 0)) • Row 69 1 gu hs.length (hs.map (·.1)) • qL hs • Row 130 3 u5 es1.length (es1.flatMap fB.enc) • nP es1 • eF p (.cells #[(.slice aa2 (qE.length) aa3), Ai, .int .i64 op, .int .i64 (fQ G N : Nat), .bool true] 173 (0, 0)) • Row 69 1 (.slice aa2 (qE.length) aa3) qE.length (qE.map (·.1)) • qL qE • Row 130 3 Ai pK.length (pK.flatMap fB.enc) • nP pK • F)) (fun (k : Nat) => qE.length - k) (0) AA pY ⟨by omega, _, [], O, ((H7.f5.f5.f8.f8.f8.f6.f8.f8).FW none).aan.f5⟩ ?_
 rintro k w9 ⟨hk, gu, hs, Yf, HL⟩
 dsimp only [List.cons_append, List.nil_append]
 refine lQ (aZ (iE O O) (qJ (eP O (fun h1 => ?_) (fun h1 => ?_))))
 ·(try simp only [aK] at h1)
  refine gX (aO (bI (lQ ?_)))
  obtain ⟨agf, agh, rfl⟩ := Rd.pos ((HL.f7).aG) (by omega)
  refine aZ (eG bJ bn O O (by omega)) ?_
  refine aZ (jk (eH aQ O) O (by first | exact Rd.wG ((HL.f7).aG) (by omega) | exact Rd.Hf ((HL.f7).aG) (by omega) | exact Rd.GX ((HL.f7).aG) (by omega))) ?_
  have hkl : k < qE.length := by omega
  rw [show (qE.map (·.1)).getD k undef = (qE.getD k default).1 from by simp [List.getD_eq_getElem?_getD, hkl]]
  obtain ⟨gl, xQ, hg⟩ : ∃ gl xQ, qE.getD k default = (gl, xQ) := ⟨_, _, rfl⟩
  rw [hg]
  have KR := HL.f8
  have Jr := KR.F6 hkl hg
  have hge : xQ.map fB.says = G.getD k [] := by
   rw [← wV]
   have h9 : (qE.map (fun g => g.2.map fB.says)).getD k [] = (qE.getD k default).2.map fB.says := by simp [List.getD_eq_getElem?_getD, hkl]
   rw [h9, hg]
  have hgm : G.getD k [] ∈ G := wS (by omega)
  have hBg := Rf hge (nY.2.2.2.2.1 _ hgm)
  have hLg : xQ.length ≤ 16384 := by
   have h8 := nY.2.1
   unfold fQ at h8
   have h7 := congrArg List.length hge
   rw [List.length_map] at h7
   have h6 := JM hgm
   omega
  have hhl := congrArg List.length Yf
  rw [List.length_map, List.length_take] at hhl
  refine jZ O ?_
  have aa4 := Jr.drew
  have KT := V.kp (aa4.f11.f11.f11.f11.f11.f11.f11.f11.f11.f11.f11)
  refine wL [2] KT O (fH 0 O KT 0 bT O dN O (fH 1 O KT 0 bW O gQ O (iY 2 O KT (fun W hW => jQ bJ O ((Kp.h hW).f3).get.2 O) (gK 3 O KT O (lU 4 O (xB O func116 (Aj aa4 hBg hLg)) ?_)))))
  rintro u12 w12 ⟨Yd, aa1, vN⟩
  obtain ⟨es2, rfl⟩ : ∃ q, q = Yd := ⟨_, rfl⟩
  have hes2 := aa1
  have Dl := V.kp (vN.f13.f13.f13.f13.f13.f13.f13.f13.f13.f13.f13.f13.f13)
  refine dV Dl (fun W hW => (Kp.h hW).right.right.f11.f11.f11.f11.f11.f11.f11.f11.f11.f11.f11) ?_
  refine lU 5 O (jc (vs := [_]) vN bJ bn oV O O O (by decide) (aW (by first | rfl | exact Rd.one ((vN).aG)) bG)) ?_
  rintro l13 TB AB
  have zU := V.kp (AB.f14.f14.f14.f14.f14.f14.f14.f14.f14.f14.f14.f14.f14.f14)
  refine dV zU (fun W hW => (Kp.h hW).right.f13.f13.f13.f13.f13.f13.f13.f13.f13.f13.f13.f13.f13) ?_
  refine lU 6 O (dQ AB.f7 bJ IJ O O O ((AB).aG) (aW (by first | rfl | exact Rd.one ((AB.f2).aG)) bG) (by omega) (by omega)) ?_
  rintro l14 Qu AL
  have abN := AL.f2.right
  have Cm := V.kp (abN.f13.f13.f13.f13.f13.f13.f13.f13.f13.f13.f13.f13.f13)
  refine fG Cm (by kernel_rfl) ?_
  refine fH 7 O Cm 0 bT O dN O (fH 8 O Cm 0 bW O gQ O ?_)
  refine gJ 9 O (by kernel_rfl) (dX 0 (l' := [_, _, _, _, _]) abN.f6 gQ O O (by first | rfl | exact Rd.one ((abN).aG)) O O) ?_
  rintro _ w16 wE
  have KU := V.kp (wE.f13.f13.f13.f13.f13.f13.f13.f13.f13.f13.f13.f13.f13)
  refine fG KU (by kernel_rfl) ?_
  have X := V.sK (es := es2) (wE.f5.right.f12.f12.f7.f12.f12.f12.f12.f8.f12.f10.f12.f12).deep
  have HN := (V.uN X.swap).aan.f3
  have hnew : (hs ++ [(u12, es2)]).map (fun g => g.2.map fB.says) = G.take (k + 1) := by rw [List.map_append, Yf, Ws (by omega), ← hge, ← hes2]; rfl
  refine qN (aX (bC (aB (aZ (fZ O O (by omega)) (dn O (cO ?_))))))
  refine eX (k + 1) ?_ ?_ ?_ ?_
  ·exact pY
  ·exact AA
  ·(try dsimp only)
   first | done | exact ⟨by omega, _, _, hnew, HN⟩
  ·(try dsimp only); omega
 ·(try simp only [aK] at h1)
  refine gY (aY (aY (dw (bC (nM O (gy results73 O ?_))))))
  rw [List.take_of_length_le (by omega)] at Yf
  have X := V.qj (gs := hs) (now := es1) nY Yf (hes1.trans uV) rfl (HL.f10.f10.f10.f10.f10.f10.f10.f10.f10.f10)
  have Y := V.qj nY wV uV rfl X.f6.f6.f6.f6.f6
  exact ⟨_, O, Y.swap⟩
end
end Go.Proofs.YtnhhmieghbfalaaGreat
end
section
namespace Go.Proofs.YtnhhmieghbfalaaGreat
open Go.RowKit
def E5 (G : List (List iO)) (N : List iO) : List (List iO) := (pX G N).reverse
def PN (N : List iO) : List (List iO) := if N = [] then [] else [N]
theorem Yg (N : List iO) : (PN N).length ≤ 1 := by unfold PN; split <;> simp
theorem aaq (G : List (List iO)) (N : List iO) : E5 G N = PN N ++ G.reverse := by
  unfold E5 PN pX; split <;> simp
end Go.Proofs.YtnhhmieghbfalaaGreat
end
section
namespace Go.Proofs.YtnhhmieghbfalaaGreat
open Go.RowKit
open _root_.Go.Proofs.Tryz
abbrev o7 := ByteArray × Int
def ny (x : o7) : List Value := [.string x.1, .int .i64 x.2]
theorem yR (x : o7) : (ny x).length = 2 := rfl
def adn (x : o7) : Prop := x.1.size ≤ 16384 ∧ 0 ≤ x.2
def HOk (hl : List o7) (base most : Int) : Prop := hl.length ≤ 4096 ∧ 1 ≤ base ∧ base ≤ 4611686018427387904 ∧ (hl.length : Int) ≤ most ∧ most ≤ 4096 ∧ ∀ x ∈ hl, adn x
def iP (p : Nat) (hl : List o7) (base most : Int) : HP := wF fun (v : Value) => fact (HOk hl base most) • eF p (.cells #[v, .int .i64 base, .int .i64 most] 106 (0, 0)) • Row 49 2 v hl.length (hl.flatMap ny)
section
variable {P : Program} {L : List (Nat × Value)} {w0 w : World} {F : HP} {ty : TypeId} {p : Nat} {hl : List o7} {base most : Int} {v : Value}
theorem KW {t e sz : Nat} {z : Value} (H : V w0 w F) (ht : P.underlying t = some (.slice e)) (hs : ∀ w, (sizeOf e).run P w = .ok sz w) (hz : ∀ w, (zeroValue e).run P w = .ok z w) :
    xu P L (.buildSlice t 0 #[]) ty w fun v w' => V w0 w' (Row e sz v 0 [] • F) := by
  refine xw (v := .slice (some ⟨w.heap.size, 0, none⟩) 0 0) (w' := w.alloc (.cells #[] e)) ?_ ?_
  · intro ρ hρ d pos qI g
    simp only [execOp, Instr.buildSlice, Sem.run_bind, run_underlying ht, Result.andThen_ok, hs]
    have h0 : Array.map (fun (_ : Nat) => (default : Value)) (Array.range 0) = #[] := Array.eq_empty_of_size_eq_zero (by simp)
    simp [Instr.fill, newRow, h0]
  · exact (H.alloc _).right.gV _
theorem V.hist (H : V w0 w (iP p hl base most • F)) : ∃ v, HOk hl base most ∧ V w0 w (eF p (.cells #[v, .int .i64 base, .int .i64 most] 106 (0, 0)) • Row 49 2 v hl.length (hl.flatMap ny) • F) := by
  obtain ⟨v, H⟩ := H.oN
  obtain ⟨h, H⟩ := H.flat.fact
  exact ⟨v, h, H.flat⟩
theorem V.DZ (h : HOk hl base most) (H : V w0 w (eF p (.cells #[v, .int .i64 base, .int .i64 most] 106 (0, 0)) • Row 49 2 v hl.length (hl.flatMap ny) • F)) : V w0 w (iP p hl base most • F) :=
  V.ji v (V.deep (V.oG h H.deep))
theorem F7 {hl : List o7} : ∀ x ∈ hl.flatMap ny, x.oneCell' = true := by
  intro x hx
  obtain ⟨e, _, hx⟩ := List.mem_flatMap.1 hx
  simp [ny] at hx
  rcases hx with rfl | rfl <;> rfl
theorem aar : (prog.info? 49).map (fun i => (i.zero, i.size, i.bytes)) = some (some (.agg #[.string .empty, .int .i64 0]), 2, 24) := by kernel_rfl
theorem F8 (H : V w0 w F) (hr : CJ w0 F 2 v hl.length (hl.flatMap ny)) (hb : hl.length ≤ 1099511627776) :
    iQ prog 104 #[v] w fun v' w' => V w0 w' (Row 49 2 v' hl.length (hl.flatMap ny) • F) := by
  obtain ⟨hlen, a, c, rfl, h1, h2, h3⟩ := hr w H
  refine jH func104 ntmps104 ?_
  refine kW O (aO (bY O (aZ (CY bZ O O) ?_)))
  refine kE O (fun h1 => ?_) (fun h1 => ?_)
  · (try simp only [aK] at h1)
    refine nM O (aV (gy results104 O ?_))
    obtain rfl : a = none := by simpa using h1
    obtain rfl : hl = [] := by
      cases hl with
      | nil => rfl
      | cons x l => obtain ⟨b, o, e, _⟩ := h3 (by simp); cases e
    exact H.gV none
  · (try simp only [aK] at h1)
    refine gX (lQ (jW (KW H bZ jX mg) ?_))
    rintro _ w1 H1
    refine dn O (jW (dQ H1 bZ aar O O O (hr.under _ H1) F7 (by omega) (by omega)) ?_)
    rintro _ w2 H2
    refine jP O (gy results104 O ?_)
    exact H2.of_eq (by rw [Nat.zero_add, List.nil_append])
theorem Ak (H : V w0 w (iP p hl base most • F)) : iQ prog 52 #[.pointer (some ⟨p, 0, none⟩)] w fun v w' => v = .bool false ∧ w = w' := by
 refine jH func52 ntmps52 ?_
 refine kW O (aO ?_)
 obtain ⟨PO, uX, xH⟩ := (H).hist
 refine aB (dn O (aZ (nG nS O O) (qG O (fun h1 => ?_) (fun h1 => ?_))))
 ·(try simp only [aK] at h1)
  exfalso; first | contradiction | omega
 ·(try simp only [aK] at h1)
  refine bK (dn O (bK (dA O (bK (Z 0 ig O mD O (bK (Z 1 iq O jU O (bK (dL jV O (xH).get.2 O (bK (aZ (je O O) (lH O O (jP O (gy results52 O ?_))))))))))))))
  exact ⟨by rw [show (base == 0) = false from by rw [beq_eq_false_iff_ne]; have := uX.2.1; omega], O⟩
theorem BM {n : Int} (H : V w0 w F) (hn : 0 ≤ n ∧ n ≤ 4096) : iQ prog 28 #[.int .i64 n] w fun v w' => ∃ p, v = .tuple #[.pointer (some ⟨p, 0, none⟩), .int .i64 0] ∧ V w0 w' (iP p [] 1 n • F) := by
  refine jH func28 ntmps28 ?_
  refine lQ (oD O (uK O (bY O (aZ (iE O O) (qG O (fun h1 => ?_) (fun h1 => ?_))))))
  · (try simp only [aK] at h1)
    exfalso; first | contradiction | omega
  · (try simp only [aK] at h1)
    refine bK (dn O (bK (aZ (gG O O) (lH O O (kE O (fun h2 => ?_) (fun h2 => ?_))))))
    · (try simp only [aK] at h2)
      exfalso; first | contradiction | omega
    · (try simp only [aK] at h2)
      refine gX (bY O (aZ (jd (pl := #[(0, 1), (1, 1), (2, 1)]) (#[_, _, _]) iq zeroValue104 (fun w => by kernel_rfl) O (O)) (aZ (jd (pl := #[(0, 3)]) (#[_, _, _]) ig zeroValue106 (fun w => by kernel_rfl) O (O)) (jW (kC (l := [_, _, _]) H O O) ?_))))
      rintro _ w1 ⟨b1, rfl, H1⟩
      refine oD O (jP O (TV results28 O O ?_))
      exact ⟨_, O, V.DZ (v := .slice none 0 0) ⟨by simp, by decide, by decide, by simp; omega, by omega, by simp⟩ ((H1.gV none).swap)⟩
theorem ru (H : V w0 w (iP p hl base most • F)) : iQ prog 97 #[.pointer (some ⟨p, 0, none⟩)] w fun v w' => v = .int .i64 hl.length ∧ V w0 w' (iP p hl base most • F) := by
 refine jH func97 ntmps97 ?_
 refine kW O (aO (bY O (fO O func52 (Ak H) ?_)))
 rintro _ _ ⟨rfl, rfl⟩
 refine iF (vX (gX (aO ?_)))
 obtain ⟨PO, uX, xH⟩ := (H).hist
 refine aB (lM O O (Z 0 ig O mD O (Z 0 iq O jJ O (dL bZ O (xH).get.2 O (aZ (fA ((xH.f2).aG) bZ O) (jP O (gy results97 O ?_)))))))
 have Nj := xH.f2.f2
 have JJ := V.DZ uX Nj
 exact ⟨O, JJ⟩
theorem y9 (H : V w0 w (iP p hl base most • F)) : iQ prog 51 #[.pointer (some ⟨p, 0, none⟩)] w fun v w' => ∃ q, v = .pointer (some ⟨q, 0, none⟩) ∧ V w0 w' (iP q hl base most • iP p hl base most • F) := by
 refine jH func51 ntmps51 ?_
 refine kW O (aO (bY O (fO O func52 (Ak H) ?_)))
 rintro _ _ ⟨rfl, rfl⟩
 refine iF (vX (gX (aO ?_)))
 obtain ⟨PO, uX, xH⟩ := (H).hist
 have hcl := uX.1
 have Ib := xH.drew
 have jT := V.kp (Ib.f2.f2)
 refine wL [4, 10, 15] jT O (gK 0 O jT O (jL 1 O jT O (fH 2 O jT 0 ig O mD O (fH 3 O jT 0 iq O jJ O (iY 4 O jT (fun W hW => jQ bZ O ((Kp.h hW)).get.2 O) (gK 6 O jT O (jL 7 O jT O (fH 8 O jT 0 ig O mD O (fH 9 O jT 1 iq O jU O (iY 10 O jT (fun W hW => jQ jV O ((Kp.h hW)).get.2 O) (gK 11 O jT O (jL 12 O jT O (fH 13 O jT 0 ig O mD O (fH 14 O jT 2 iq O ah O (iY 15 O jT (fun W hW => jQ ay O ((Kp.h hW)).get.2 O) (lU 5 O (xB O func104 (F8 Ib (fun W HW => (HW.f2).aG) (by omega))) ?_))))))))))))))))
 rintro u3 w3 H3
 have Ei := V.kp (H3.f3.f3.f3)
 refine dV Ei (fun W hW => (Kp.h hW).right.f2.f2) ?_
 obtain ⟨au3, cu3, eu3, -⟩ := ((H3).aG).form
 subst eu3
 refine jR 16 O Ei (fun _ => jd (pl := #[(0, 1), (1, 1), (2, 1)]) (#[_, _, _]) iq zeroValue104 (fun w => by kernel_rfl) O (O)) (jR 17 O Ei (fun _ => jd (pl := #[(0, 3)]) (#[_, _, _]) ig zeroValue106 (fun w => by kernel_rfl) O (O)) (lU 18 O (kC (l := [_, _, _]) H3 O O) ?_))
 rintro _ w4 ⟨b4, rfl, H4⟩
 have xR := V.kp (H4.f4.f4.f4.f4)
 refine fG xR (by kernel_rfl) ?_
 refine jR 19 O xR (fun _ => iV O) (qN (bC (oP (gy results51 O ?_))))
 have Ho6 := H4.f4.f4
 have Hc7 := V.DZ uX Ho6
 exact ⟨_, O, V.DZ uX Hc7.f3.f3⟩
end
end Go.Proofs.YtnhhmieghbfalaaGreat
end
section
namespace Go.Proofs.YtnhhmieghbfalaaGreat
open Go.RowKit
def uq {β : Type} (f : Int → β) (a : Int) (v : β) : Int → β := fun x => if x = a then v else f x
theorem gW {β : Type} (f : Int → β) (a : Int) (v : β) : uq f a v a = v := if_pos rfl
theorem uw {β : Type} (f : Int → β) {a x : Int} (v : β) (h : x ≠ a) : uq f a v x = f x := if_neg h
theorem aas {β : Type} (f : Int → β) (a : Int) : uq f a (f a) = f := by funext x; unfold uq; split <;> simp_all
structure pU where
  L : List Int
  pt : Int
  mark : Int
  E : List (List Int)
  at_ : Nat
  place : Int
  tx : Int → Option ByteArray
  un : Int → List (List iO)
  mode : Int
  over : Bool
  last : Int
  fr : Int
  to : Int
  res : Int
  run : Bool
structure bP where
  c : pU
  hl : List o7
  base : Int
  most : Int
  nZ : Int
  given : Bool
  minus : Bool
  arg : Int
  inn : Bool
  was : pU
  cls : Int
  kJ : Bool
  kZ : Bool
  argues : Bool
  whole : Bool
  put : List iO
def Rh (hl : List o7) (k : Int) : o7 := if 0 ≤ k ∧ k < hl.length then hl.getD k.toNat default else (.empty, 0)
def yB (hl : List o7) (k : Int) : ByteArray := (Rh hl k).1
def iK (hl : List o7) (tx : Int → Option ByteArray) (k : Int) : ByteArray := (tx k).getD (yB hl k)
def D5 (hl : List o7) (tx : Int → Option ByteArray) (place : Int) (k : Nat) : Bool := decide ((k : Int) ≠ place) && !((iK hl tx k).toList == (yB hl k).toList)
def qy (hl : List o7) (tx : Int → Option ByteArray) (place : Int) (n : Nat) : List (Int × ByteArray) := ((List.range n).filter (D5 hl tx place)).map fun (k : Nat) => ((k : Int), iK hl tx k)
def tq (hl : List o7) (tx : Int → Option ByteArray) (place : Int) : List (Int × ByteArray) := qy hl tx place hl.length ++ (if place ≠ hl.length then [((hl.length : Int), iK hl tx hl.length)] else [])
def sN (G : List (List iO)) (inn : Bool) (put : List iO) (typed run : Bool) : Int := (G.length : Int) + if inn && !put.isEmpty && !(typed && run) then 1 else 0
namespace bP
variable (s : bP)
def here : List (List iO) := s.c.un s.c.place
def lG (G : List (List iO)) : bP := { s with c := { s.c with un := uq s.c.un s.c.place G } }
def AU : Int := if s.inn then 0 else 1
def Dt : Int := if s.inn then 1 else 0
def bU : bP := if s.inn then s else { s with inn := true, was := s.c, cls := 0, kJ := false, kZ := false, argues := false, whole := true, put := [] }
def iw (on : Bool) : List (List iO) := if s.put = [] then s.here else if on then (match s.here.getLast? with | some g => s.here.dropLast ++ [g ++ s.put] | none => [s.put]) else s.here ++ [s.put]
def dJ (on : Bool) : bP := if s.put = [] then s else { s.lG (s.iw on) with put := [] }
def tV : bP := { s with given := false, minus := false, arg := -1 }
def Dp (err : Int) : Int := if s.inn then err else 1
def zf : bP := { s.tV with inn := false, c := { s.was with last := 0, fr := 0, to := 0 }, nZ := IntKind.i64.wrap (s.nZ + 1), put := [] }
def typed : Bool := s.cls == 3 && s.whole
def jF : bP := { (if s.argues then s else s.tV) with inn := false }
def kK : bP :=
  let t := s.jF.dJ (s.typed && s.c.run)
  let c := { t.c with run := s.typed && (!s.put.isEmpty || s.c.run), last := s.cls }
  { t with c := if s.cls ≠ 2 then { c with fr := 0, to := 0 } else c }
def lS (err : Int) : bP := if s.inn then (if err = 0 then s.kK else s.zf) else s
def oH (x : iO) : bP :=
  if x.2.1.length + x.2.2.length = 0 then s else
  if 16384 ≤ fQ s.here s.put then { s.lG [] with put := [x], c := { (s.lG []).c with run := false } } else { s with put := s.put ++ [x] }
def nI (L : List Int) (pt mk : Int) : bP := { s with c := { s.c with L := L, pt := pt, mark := mk } }
def og (i j : Int) (l : List Int) : Int := if s.inn then kQ s.c.L i j l else 1
def iR (i j : Int) (l : List Int) : bP := if s.inn then (s.nI (lZ s.c.L i j l) (rG s.c.L s.c.pt i j l) (tN s.c.L s.c.mark i j l)).oH (rH s.c.L i j l, ng s.c.L i j l, ni s.c.L i j l) else s
def Wu (l : List Int) : Int := s.og s.c.pt s.c.pt l
def Am (l : List Int) : bP := s.iR s.c.pt s.c.pt l
def kD (l : List Int) : Int := if s.c.over then min (s.c.pt + l.length) s.c.L.length else s.c.pt
def zh (l : List Int) : Int := s.og s.c.pt (s.kD l) l
def mW (l : List Int) : bP := if s.inn then (let t := s.iR s.c.pt (s.kD l) l; if s.zh l = 0 ∧ s.cls = 0 then { t with cls := 3 } else t) else s
def way (back : Bool) : Int := if s.c.last = 1 ∨ s.kJ = true then (if back then 2 else 1) else 0
def nT (i j : Int) : Prop := i < 0 ∨ s.c.L.length < i ∨ j < i ∨ s.c.L.length < j
instance (i j : Int) : Decidable (s.nT i j) := by unfold nT; infer_instance
def cut (i j : Int) : List Int := (s.c.L.drop i.toNat).take (j.toNat - i.toNat)
def qU (i j : Int) (back : Bool) : Int × List (List Int) × Nat := jO s.c.E s.c.at_ (s.way back) (s.cut i j)
def mX (i j : Int) (back : Bool) : Int := if s.inn then (if s.nT i j then 70 else (s.qU i j back).1) else 1
def zV (E : List (List Int)) (a : Nat) : bP := { s with c := { s.c with E := E, at_ := a } }
def qB (i j : Int) (back : Bool) : bP := if s.mX i j back = 0 then { s.zV (s.qU i j back).2.1 (s.qU i j back).2.2 with kJ := true, cls := 1 } else s
def Ol (i j : Int) (back : Bool) : Int := if s.mX i j back = 0 then (s.qB i j back).og i j [] else s.mX i j back
def sO (i j : Int) (back : Bool) : bP := if s.mX i j back = 0 then (s.qB i j back).iR i j [] else s
def top : List Int := s.c.E.getD s.c.at_ []
def Du : Int := if s.inn then (if s.c.E.length = 0 then 6 else s.Wu s.top) else 1
def zW : bP :=
  if s.Du = 0 then
    let t := s.Am s.top
    { t with kZ := true, cls := 2, c := { t.c with mark := smM t.c.L t.c.mark s.c.pt, fr := s.c.pt, to := s.c.pt + s.top.length } }
  else s
def aat (n : Int) : List Int := s.c.E.getD (Hu s.c.E.length s.c.at_ n) []
def ado (n : Int) : Int := if s.inn then (if s.c.last ≠ 2 ∨ s.kZ = true then 6 else if s.c.E.length = 0 then 6 else s.og s.c.fr s.c.to (s.aat n)) else 1
def adp (n : Int) : bP :=
  if s.ado n = 0 then
    let t := s.iR s.c.fr s.c.to (s.aat n)
    { t with kZ := true, cls := 2, c := { t.c with E := s.c.E, at_ := Hu s.c.E.length s.c.at_ n, fr := s.c.fr, to := s.c.fr + (s.aat n).length } }
  else s
def kills : List (List Int) := s.c.E.drop s.c.at_ ++ s.c.E.take s.c.at_
def agi (x : Int) : Int := if s.inn then mvE s.c.L.length x else 1
def Ri (x : Int) : bP := if s.inn then s.nI s.c.L (mvP s.c.L.length s.c.pt x) s.c.mark else s
def agj (x : Int) : Int := if s.inn then smE s.c.L x else 1
def aa5 (x : Int) : bP := if s.inn then s.nI s.c.L s.c.pt (smM s.c.L s.c.mark x) else s
def agk : Int := if s.inn then swE s.c.mark else 1
def aa6 : bP := if s.inn then s.nI s.c.L (swP s.c.pt s.c.mark) (swM s.c.pt s.c.mark) else s
def adq (b : List Int × Int × Int) (x : iO) : List Int × Int × Int := (Kw b.1 x.1 x.2.1 x.2.2, aev b.1 b.2.1 x.1 x.2.1 x.2.2, aew b.1 b.2.2 x.1 x.2.1 x.2.2)
def apps (b : List Int × Int × Int) (l : List iO) : List Int × Int × Int := l.foldl adq b
def KX (l : List iO) : bP := let b := apps (s.c.L, s.c.pt, s.c.mark) l; s.nI b.1 b.2.1 b.2.2
def zX : bP := { s with whole := false, c := { s.c with run := false } }
def zY : bP := if s.inn then (let t := s.dJ false; if t.here = [] then t else ((t.lG t.here.dropLast).KX ((t.here.getLastD []).reverse.map BK)).zX) else s
def F5 : Int := if s.inn then (if (s.dJ false).here = [] then 6 else 0) else 1
def adr : bP := if s.inn then (let t := s.dJ false; if t.here = [] then t else ((t.lG []).KX (t.here.flatten.reverse.map BK)).zX) else s
def abO (d : Int) : Int := if s.inn then (if d < 0 ∨ 9 < d then 1 else 0) else 1
def aeD (d : Int) : bP := if s.abO d = 0 then { s with given := true, argues := true, arg := min (max s.arg 0 * 10 + d) 1000000 } else s
def aha : bP := if s.inn then { s with given := true, argues := true, minus := !s.minus } else s
def aeE (n : Int) : Int := if s.inn then (if 1000000 < n ∨ n < -1000000 then 1 else 0) else 1
def ahb (n : Int) : bP := if s.aeE n = 0 then { s with given := true, argues := true, minus := decide (n < 0), arg := max n (-n) } else s
def count : Int := if s.given then (let n := if s.arg < 0 then 1 else s.arg; if s.minus then -n else n) else 1
def aa7 (m : Int) : Int := if s.inn then (if m < 0 ∨ 2 < m then 1 else 0) else 1
def aa8 (m : Int) : bP := if s.aa7 m = 0 then { s with c := { s.c with mode := m } } else s
def agl (b : Bool) : bP := if s.inn then { s with c := { s.c with over := b } } else s
def aeF (r : Int) : Int := if s.inn then (if r < 1 ∨ 3 < r then 1 else 0) else 1
def ahc (r : Int) : bP := if s.aeF r = 0 then { s with c := { s.c with res := r } } else s
def first (k : Int) : ByteArray := yB s.hl k
def stands (k : Int) : ByteArray := (s.c.tx k).getD (s.first k)
def Dv : Int := sN s.here s.inn s.put s.typed s.c.run
def saved : List (Int × ByteArray) := tq s.hl s.c.tx s.c.place
def xI : Int := if s.inn then s.was.last else s.c.last
def Uo : Int := if s.inn then s.was.fr else s.c.fr
def Ur : Int := if s.inn then s.was.to else s.c.to
end bP
def pU.fresh (l : List Int) (E : List (List Int)) (a : Nat) (place mode : Int) : pU := ⟨l, l.length, -1, E, a, place, fun _ => none, fun _ => [], mode, false, 0, 0, 0, 0, false⟩
def bP.start (s : bP) (hl : List o7) (base most : Int) (l : List Int) : bP := { s with c := pU.fresh l s.c.E s.c.at_ hl.length s.c.mode, hl := hl, base := base, most := most, given := false, minus := false, arg := -1 }
def bP.new (hl : List o7) (base most : Int) : bP :=
  let c := pU.fresh [] [] 0 hl.length 0
  { c := c, hl := hl, base := base, most := most, nZ := 0, given := false, minus := false, arg := -1, inn := false, was := c, cls := 0, kJ := false, kZ := false, argues := false, whole := false, put := [] }
end Go.Proofs.YtnhhmieghbfalaaGreat
end
section
namespace Go.Proofs.YtnhhmieghbfalaaGreat
open Go.RowKit Go.MapKept
structure Key (α : Type) where
  mkKey ::
  d : TypeDesc
  mk : α → Value
  key : ∀ a, IsKey d (mk a)
  inj : ∀ a b, mk a = mk b → a = b
  onto : ∀ v, IsKey d v → ∃ a, mk a = v
def Eo (k : IntKind) : Key Int := ⟨.int k, .int k, fun _ => rfl, fun _ _ h => by cases h; rfl, fun v h => by
  cases v <;> simp [IsKey] at h
  subst h
  exact ⟨_, rfl⟩⟩
abbrev uy : Key Int := Eo .i64
abbrev ahd : Key Int := Eo .i32
def ahe : Key ByteArray := ⟨.string, .string, fun _ => trivial, fun _ _ h => by cases h; rfl, fun v h => by
  cases v <;> simp [IsKey] at h
  exact ⟨_, rfl⟩⟩
section
variable {α : Type} {K : Key α} {f : α → Option Value} {es : Array MapEntry} {clock : Nat}
def EC (K : Key α) (f : α → Option Value) (es : Array MapEntry) (clock : Nat) : Prop :=
  Stamped es clock ∧ (∀ x ∈ es.toList, IsKey K.d x.key) ∧ ∀ a v, f a = some v ↔ ∃ x ∈ es.toList, x.key = K.mk a ∧ x.val = v
def jM (K : Key α) (b : Nat) (f : α → Option Value) : HP := wF fun (x : Array MapEntry × Nat) => fact (EC K f x.1 x.2) • eF b (.map x.1 x.2)
def upd [DecidableEq α] {β : Type} (f : α → Option β) (a : α) (v : β) : α → Option β := fun x => if x = a then some v else f x
theorem EC.same (h : EC K f es clock) {x y : MapEntry} (hx : x ∈ es.toList) (hy : y ∈ es.toList) (e : x.key = y.key) : x = y := by
  have hn := h.1.2.2
  rw [List.Nodup, List.pairwise_map] at hn
  exact AV hn hx hy e
where
  AV : ∀ {l : List MapEntry}, l.Pairwise (fun x y => x.key ≠ y.key) → ∀ {x y : MapEntry}, x ∈ l → y ∈ l → x.key = y.key → x = y
    | [], _, _, _, hx, _, _ => by cases hx
    | z :: l, hp, x, y, hx, hy, e => by
      rw [List.pairwise_cons] at hp
      rcases List.mem_cons.1 hx with hx1 | hx1
      · rcases List.mem_cons.1 hy with hy1 | hy1
        · rw [hx1, hy1]
        · exact absurd (by rw [← hx1]; exact e) (hp.1 _ hy1)
      · rcases List.mem_cons.1 hy with hy1 | hy1
        · exact absurd (by rw [← hy1]; exact e.symm) (hp.1 _ hx1)
        · exact AV hp.2 hx1 hy1 e
theorem Vm : ∀ {l : List MapEntry}, (l.map (·.born)).Nodup → ∀ {x y : MapEntry}, x ∈ l → y ∈ l → x.born = y.born → x = y
  | [], _, _, _, hx, _, _ => by cases hx
  | z :: l, hp, x, y, hx, hy, e => by
    rw [List.map_cons, List.nodup_cons] at hp
    rcases List.mem_cons.1 hx with hx1 | hx1
    · rcases List.mem_cons.1 hy with hy1 | hy1
      · rw [hx1, hy1]
      · exact absurd (List.mem_map.2 ⟨y, hy1, by rw [← hx1]; exact e.symm⟩) hp.1
    · rcases List.mem_cons.1 hy with hy1 | hy1
      · exact absurd (List.mem_map.2 ⟨x, hx1, by rw [← hy1]; exact e⟩) hp.1
      · exact Vm hp.2 hx1 hy1 e
theorem EC.find (h : EC K f es clock) (a : α) : (Instr.findNow K.d (K.mk a) es.toList 0 = some none ∧ f a = none ∧ ∀ x ∈ es.toList, x.key ≠ K.mk a) ∨
    ∃ j e, Instr.findNow K.d (K.mk a) es.toList 0 = some (some (j, e.val)) ∧ es.toList[j]? = some e ∧ e.key = K.mk a ∧ f a = some e.val := by
  rcases findNow_spec (K.key a) es.toList 0 h.2.1 with ⟨h1, h2⟩ | ⟨j, e, h1, h2, h3⟩
  · refine .inl ⟨h1, ?_, h2⟩
    cases hf : f a with
    | none => rfl
    | some v =>
      obtain ⟨x, hx, hk, _⟩ := (h.2.2 a v).1 hf
      exact absurd hk (h2 x hx)
  · refine .inr ⟨j, e, by simpa using h1, h2, h3, (h.2.2 a e.val).2 ⟨e, List.mem_of_getElem? h2, h3, rfl⟩⟩
theorem Rj (K : Key α) : EC K (fun _ => none) #[] 0 := ⟨stamped_empty 0, by simp, by simp⟩
end
section
variable {α : Type} {K : Key α} {f : α → Option Value} {es : Array MapEntry} {clock : Nat} {P : Program} {L : List (Nat × Value)} {w w0 : World} {ty : TypeId} {x y z : Operand} {F : HP} {b it n : Nat} {a : α} {S : List α}
theorem V.map (H : V w0 w (jM K b f • F)) : ∃ es clock, EC K f es clock ∧ V w0 w (eF b (.map es clock) • F) := by
  obtain ⟨⟨es, clock⟩, H⟩ := H.oN
  obtain ⟨h, H⟩ := H.flat.fact
  exact ⟨es, clock, h, H⟩
theorem V.PS (h : EC K f es clock) (H : V w0 w (eF b (.map es clock) • F)) : V w0 w (jM K b f • F) := V.ji (es, clock) (V.deep (V.oG h H))
theorem Rk {t kt et : TypeId} {zv : Value} (ok : Bool) (h : EC K f es clock) (hb : w.heap[b]? = some (.map es clock)) (ht : P.underlying t = some (.map kt et)) (hk : P.underlying kt = some K.d) (hz : (zeroValue et).run P w = .ok zv w) :
    (Instr.lookup t (.map (some b)) (K.mk a) ok).run P w = .ok (if ok then .tuple #[(f a).getD zv, .bool (f a).isSome] else (f a).getD zv) w := by
  rcases h.find a with ⟨h1, h2, _⟩ | ⟨j, e, h1, h2, h3, h4⟩
  · simp [Instr.lookup, run_underlying ht, MapKept.run_getObj_map hb, MapKept.run_checkKey hk (K.key a), MapKept.run_findKey hk h1, hz, Result.andThen, h2]
  · simp [Instr.lookup, run_underlying ht, MapKept.run_getObj_map hb, MapKept.run_checkKey hk (K.key a), MapKept.run_findKey hk h1, Result.andThen, h4]
theorem Rl {t kt et : TypeId} {zv : Value} (H : V w0 w (jM K b f • F)) (ht : P.underlying t = some (.map kt et)) (hk : P.underlying kt = some K.d) (hz : ∀ w, (zeroValue et).run P w = .ok zv w)
    (hx : ev L x = some (.map (some b))) (hy : ev L y = some (K.mk a)) : Val P L (.lookup t x y false) ty w ((f a).getD zv) w := fun ρ hρ _ _ _ _ => by
  obtain ⟨es, clock, h, H⟩ := H.map
  simp only [execOp, hρ _ _ hx, hρ _ _ hy, Sem.run_bind]
  rw [Rk false h H.get.2 ht hk (hz w)]
  rfl
theorem Rn {t kt et : TypeId} {zv : Value} (H : V w0 w (jM K b f • F)) (ht : P.underlying t = some (.map kt et)) (hk : P.underlying kt = some K.d) (hz : ∀ w, (zeroValue et).run P w = .ok zv w)
    (hx : ev L x = some (.map (some b))) (hy : ev L y = some (K.mk a)) : Val P L (.lookup t x y true) ty w (.tuple #[(f a).getD zv, .bool (f a).isSome]) w := fun ρ hρ _ _ _ _ => by
  obtain ⟨es, clock, h, H⟩ := H.map
  simp only [execOp, hρ _ _ hx, hρ _ _ hy, Sem.run_bind]
  rw [Rk true h H.get.2 ht hk (hz w)]
  rfl
theorem oI {t : TypeId} (K : Key α) (H : V w0 w F) : xu P L (.makeMap t none) ty w fun v w' => ∃ b, v = .map (some b) ∧ V w0 w' (jM K b (fun _ => none) • F) := by
  refine xw (v := .map (some w.heap.size)) (w' := w.alloc (.map #[] 0)) ?_ ⟨_, rfl, V.PS (Rj K) (H.alloc _)⟩
  intro ρ hρ d pos qI g
  simp only [execOp, Sem.run_bind, Option.map_none]
  rfl
theorem Ro {o : Obj} {b : Nat} (h : w.heap[b]? = some o) (o' : Obj) : ({ w with heap := w.heap.setIfInBounds b o' } : World).heap[b]? = some o' ∧ ∀ k, k ≠ b → ({ w with heap := w.heap.setIfInBounds b o' } : World).heap[k]? = w.heap[k]? := by
  have hlt := lt_of_block h
  exact ⟨by simp [hlt], fun k hk => by simp [Ne.symm hk]⟩
theorem V.setB {o : Obj} (H : V w0 w (eF b o • F)) (o' : Obj) : V w0 (ChangeMaps.setBlock w b o') (eF b o' • F) :=
  V.turn (w := w) (w' := ChangeMaps.setBlock w b o') H rfl rfl rfl (by simp [ChangeMaps.setBlock]) (Ro H.get.2 o').1 fun k hk _ => (Ro H.get.2 o').2 k hk
theorem Dw [DecidableEq α] {t kt et : TypeId} {v : Value} (H : V w0 w (jM K b f • F)) (ht : P.underlying t = some (.map kt et)) (hk : P.underlying kt = some K.d)
    (hx : ev L x = some (.map (some b))) (hy : ev L y = some (K.mk a)) (hz : ev L z = some v) : xu P L (.mapUpdate t x y z) ty w fun _ w' => V w0 w' (jM K b (upd f a v) • F) := by
  obtain ⟨es, clock, h, H⟩ := H.map
  have hb := H.get.2
  rcases h.find a with ⟨h1, h2, h3⟩ | ⟨j, e, h1, h2, h3, h4⟩
  · have hrun : (Instr.mapUpdate t (.map (some b)) (K.mk a) v).run P w = .ok () (ChangeMaps.setBlock w b (.map (es.push { key := K.mk a, val := v, born := clock }) (clock + 1))) := by
      simp [ChangeMaps.setBlock, Instr.mapUpdate, run_underlying ht, MapKept.run_getObj_map hb, MapKept.run_checkKey hk (K.key a), MapKept.run_findKey hk h1, MapKept.run_setObj_map _ hb, Result.andThen]
    refine J5 (w' := ChangeMaps.setBlock w b (.map (es.push { key := K.mk a, val := v, born := clock }) (clock + 1))) (fun ρ hρ d pos qI g => ?_) (V.PS (es := es.push { key := K.mk a, val := v, born := clock }) (clock := clock + 1) ⟨stamped_push h.1 h3, ?_, ?_⟩ (H.setB _))
    · simp only [execOp, hρ _ _ hx, hρ _ _ hy, hρ _ _ hz, Sem.run_bind]
      rw [hrun]; rfl
    · intro q hq
      simp only [Array.toList_push, List.mem_append, List.mem_singleton] at hq
      rcases hq with hq | rfl
      · exact h.2.1 q hq
      · exact K.key a
    · intro c u
      simp only [Array.toList_push, List.mem_append, List.mem_singleton, upd]
      by_cases hc : c = a
      · subst hc
        rw [if_pos rfl]
        constructor
        · intro hu; cases hu; exact ⟨_, .inr rfl, rfl, rfl⟩
        · rintro ⟨q, hq | rfl, hqk, Yh⟩
          · exact absurd hqk (h3 q hq)
          · rw [← Yh]
      · rw [if_neg hc, h.2.2 c u]
        constructor
        · rintro ⟨q, hq, hqk, Yh⟩; exact ⟨q, .inl hq, hqk, Yh⟩
        · rintro ⟨q, hq | rfl, hqk, Yh⟩
          · exact ⟨q, hq, hqk, Yh⟩
          · exact absurd (K.inj _ _ hqk).symm hc
  · have hj : es[j]? = some e := by simpa using h2
    have hrun : (Instr.mapUpdate t (.map (some b)) (K.mk a) v).run P w = .ok () (ChangeMaps.setBlock w b (.map (es.modify j fun e => { e with key := K.mk a, val := v }) clock)) := by
      simp [ChangeMaps.setBlock, Instr.mapUpdate, run_underlying ht, MapKept.run_getObj_map hb, MapKept.run_checkKey hk (K.key a), MapKept.run_findKey hk h1, hj, h3, MapKept.run_keyThatStays (K.key a), MapKept.run_setObj_map _ hb, Result.andThen]
    have hkey : ∀ e', es[j]? = some e' → ({ e' with key := K.mk a, val := v } : MapEntry).key = e'.key := fun e' he' => by rw [hj] at he'; cases he'; exact h3.symm
    have hst : Stamped (es.modify j fun e => { e with key := K.mk a, val := v }) clock := stamped_modify h.1 _ _ (fun _ _ => rfl) (fun e' _ he' => hkey e' he')
    have hmem : ∀ q, q ∈ (es.modify j fun e => { e with key := K.mk a, val := v }).toList ↔ (q = { e with key := K.mk a, val := v } ∨ q ∈ es.toList ∧ q.key ≠ K.mk a) := by
      intro q
      have hee : e ∈ es.toList := List.mem_of_getElem? h2
      constructor
      · intro hq
        obtain ⟨i, hi⟩ := List.getElem?_of_mem hq
        rw [Array.getElem?_toList, Array.getElem?_modify] at hi
        by_cases hij : j = i
        · subst hij
          rw [if_pos rfl, hj] at hi
          exact .inl (by simpa using hi.symm)
        · rw [if_neg hij] at hi
          have hqm : q ∈ es.toList := Array.mem_toList_iff.2 (Array.mem_of_getElem? hi)
          refine .inr ⟨hqm, fun hqk => ?_⟩
          have he : q = e := h.same hqm hee (hqk.trans h3.symm)
          subst he
          have hn := h.1.2.1
          have h5 : (es.toList.map (·.born))[i]? = some q.born := by rw [List.getElem?_map, Array.getElem?_toList, hi]; rfl
          have h6 : (es.toList.map (·.born))[j]? = some q.born := by rw [List.getElem?_map, h2]; rfl
          have hlt : i < (es.toList.map (·.born)).length := (List.getElem?_eq_some_iff.1 h5).1
          have hlt2 : j < (es.toList.map (·.born)).length := (List.getElem?_eq_some_iff.1 h6).1
          exact hij ((List.getElem?_inj hlt2 hn).1 (h6.trans h5.symm))
      · rintro (rfl | ⟨hq, hqk⟩)
        · apply List.mem_of_getElem? (i := j)
          rw [Array.getElem?_toList, Array.getElem?_modify, if_pos rfl, hj]; rfl
        · obtain ⟨i, hi⟩ := List.getElem?_of_mem hq
          have hij : j ≠ i := by
            rintro rfl
            rw [h2] at hi; cases hi
            exact hqk h3
          apply List.mem_of_getElem? (i := i)
          rw [Array.getElem?_toList, Array.getElem?_modify, if_neg hij]
          rwa [Array.getElem?_toList] at hi
    refine J5 (w' := ChangeMaps.setBlock w b (.map (es.modify j fun e => { e with key := K.mk a, val := v }) clock)) (fun ρ hρ d pos qI g => ?_) (V.PS (es := es.modify j fun e => { e with key := K.mk a, val := v }) (clock := clock) ⟨hst, isKey_modify h.2.1 _ _ hkey, ?_⟩ (H.setB _))
    · simp only [execOp, hρ _ _ hx, hρ _ _ hy, hρ _ _ hz, Sem.run_bind]
      rw [hrun]; rfl
    · intro c u
      simp only [hmem, upd]
      by_cases hc : c = a
      · subst hc
        rw [if_pos rfl]
        constructor
        · intro hu; cases hu; exact ⟨_, .inl rfl, rfl, rfl⟩
        · rintro ⟨q, rfl | ⟨hq, hqn⟩, hqk, Yh⟩
          · rw [← Yh]
          · exact absurd hqk hqn
      · rw [if_neg hc, h.2.2 c u]
        constructor
        · rintro ⟨q, hq, hqk, Yh⟩
          exact ⟨q, .inr ⟨hq, fun hqa => hc (K.inj _ _ (hqk.symm.trans hqa))⟩, hqk, Yh⟩
        · rintro ⟨q, rfl | ⟨hq, hqn⟩, hqk, Yh⟩
          · exact absurd (K.inj _ _ hqk).symm hc
          · exact ⟨q, hq, hqk, Yh⟩
def abP (K : Key α) (f : α → Option Value) (es : Array MapEntry) (clock : Nat) (seen : Array Nat) (S : List α) (n : Nat) : Prop :=
  EC K f es clock ∧ (∃ xs : List MapEntry, (∀ x ∈ xs, x ∈ es.toList) ∧ seen.toList = xs.map (·.born) ∧ xs.map (·.key) = S.map K.mk) ∧ (leftOf es seen).size = n
def F9 (K : Key α) (b it : Nat) (f : α → Option Value) (S : List α) (n : Nat) : HP := wF fun (x : Array MapEntry × Nat × Array Nat) => fact (abP K f x.1 x.2.1 x.2.2 S n) • eF it (.mapIter (some b) x.2.1 x.2.2 x.2.1) • eF b (.map x.1 x.2.1)
theorem V.Yi (H : V w0 w (F9 K b it f S n • F)) : ∃ es clock seen, abP K f es clock seen S n ∧ V w0 w (eF it (.mapIter (some b) clock seen clock) • eF b (.map es clock) • F) := by
  obtain ⟨⟨es, clock, seen⟩, H⟩ := H.oN
  obtain ⟨h, H⟩ := H.flat.fact
  exact ⟨es, clock, seen, h, H.flat⟩
theorem V.KY {seen : Array Nat} (h : abP K f es clock seen S n) (H : V w0 w (eF it (.mapIter (some b) clock seen clock) • eF b (.map es clock) • F)) : V w0 w (F9 K b it f S n • F) :=
  V.ji (es, clock, seen) (V.deep (V.oG h (H.of_eq (by ac_rfl))))
theorem V.Om (H : V w0 w (F9 K b it f S n • F)) : V w0 w (jM K b f • F) := by
  obtain ⟨es, clock, seen, h, H⟩ := H.Yi
  exact V.PS h.1 H.right
theorem IK {t kt et : TypeId} (H : V w0 w (jM K b f • F)) (ht : P.underlying t = some (.map kt et)) (hx : ev L x = some (.map (some b))) :
    xu P L (.range t x) ty w fun v w' => ∃ it n, v = .pointer (some ⟨it, 0, none⟩) ∧ V w0 w' (F9 K b it f [] n • F) := by
  obtain ⟨es, clock, h, H⟩ := H.map
  refine xw (v := .pointer (some ⟨w.heap.size, 0, none⟩)) (w' := w.alloc (.mapIter (some b) clock #[] clock)) ?_ ⟨_, _, rfl, V.KY ⟨h, ⟨[], by simp, rfl, rfl⟩, rfl⟩ (H.alloc _)⟩
  intro ρ hρ d pos qI g
  simp only [execOp, hρ _ _ hx, Sem.run_bind]
  rw [run_range_map w t kt et b es clock ht H.get.2]
  rfl
def nxV (K : Key α) : Option (α × Value) → Value
  | some (a, u) => .tuple #[.bool true, K.mk a, u]
  | none => .tuple #[.bool false]
def aeG (f : α → Option Value) (S : List α) (n : Nat) (S' : List α) (n' : Nat) : Option (α × Value) → Prop
  | some (a, u) => f a = some u ∧ a ∉ S ∧ n' < n ∧ S' = S ++ [a]
  | none => S' = S ∧ n' = n ∧ ∀ a u, f a = some u → a ∈ S
theorem aau {es : Array MapEntry} {seen : Array Nat} {e : MapEntry} (he : e ∈ (leftOf es seen).toList) : (leftOf es (seen.push e.born)).size < (leftOf es seen).size := by
  unfold leftOf at *
  rw [Array.toList_filter, List.mem_filter] at he
  have e1 : ∀ q : MapEntry → Bool, (es.filter q).size = (es.toList.filter q).length := fun q => by rw [← Array.toList_filter, Array.length_toList]
  rw [e1, e1]
  refine filter_lt _ _ (fun x hx => ?_) e he.2 ?_ es.toList he.1
  · simp only [Bool.not_eq_true', Array.contains_push, Bool.or_eq_false_iff] at hx ⊢
    exact hx.1
  · simp
theorem KZ (H : V w0 w (F9 K b it f S n • F)) (hx : ev L x = some (.pointer (some ⟨it, 0, none⟩))) :
    xu P L (.next x false) ty w fun v w' => ∃ o S' n', v = nxV K o ∧ aeG f S n S' n' o ∧ V w0 w' (F9 K b it f S' n' • F) := by
  obtain ⟨es, clock, seen, ⟨hm, ⟨xs, hxs, hse, hS⟩, hn⟩, H⟩ := H.Yi
  have hr := H.get.2
  have hb := H.swap.get.2
  rcases run_next_at (P := P) w ty it b clock clock seen es clock hr hb hm.1.1 (Nat.le_refl _) with ⟨h0, hrun⟩ | ⟨e, he, w1, hw1, hrun⟩
  · refine xw (v := nxV K none) (w' := w) (fun ρ hρ d pos qI g => ?_) ⟨none, S, n, rfl, ⟨rfl, rfl, fun a u ha => ?_⟩, V.KY ⟨hm, ⟨xs, hxs, hse, hS⟩, hn⟩ H⟩
    · simp only [execOp, hρ _ _ hx, Sem.run_bind]
      rw [hrun]; rfl
    · obtain ⟨y, hy, hyk, _⟩ := (hm.2.2 a u).1 ha
      have hys : seen.contains y.born = true := by
        cases hc : seen.contains y.born with
        | true => rfl
        | false =>
          have hyl : y ∈ (leftOf es seen).toList := by unfold leftOf; rw [Array.toList_filter, List.mem_filter]; exact ⟨hy, by rw [hc]; rfl⟩
          have := List.length_pos_of_mem hyl
          rw [Array.length_toList] at this
          omega
      have ads : y.born ∈ seen.toList := by simpa using hys
      rw [hse] at ads
      obtain ⟨q, hq, hqb⟩ := List.mem_map.1 ads
      have hqy : q = y := Vm hm.1.2.1 (hxs q hq) hy hqb
      subst hqy
      have : K.mk a ∈ S.map K.mk := by rw [← hS]; exact List.mem_map.2 ⟨q, hq, hyk⟩
      obtain ⟨c, hc, hce⟩ := List.mem_map.1 this
      rw [← K.inj _ _ hce]; exact hc
  · have hel : e ∈ es.toList ∧ seen.contains e.born = false := by
      have := he
      unfold leftOf at this
      rw [Array.toList_filter, List.mem_filter] at this
      exact ⟨this.1, by simpa using this.2⟩
    obtain ⟨a, ha⟩ := K.onto e.key (hm.2.1 e hel.1)
    have hfa : f a = some e.val := (hm.2.2 a e.val).2 ⟨e, hel.1, ha.symm, rfl⟩
    have hns : a ∉ S := fun hs => by
      have : K.mk a ∈ S.map K.mk := List.mem_map.2 ⟨a, hs, rfl⟩
      rw [← hS] at this
      obtain ⟨q, hq, hqk⟩ := List.mem_map.1 this
      have hqe : q = e := hm.same (hxs q hq) hel.1 (hqk.trans ha)
      subst hqe
      have h9 : q.born ∈ seen.toList := by rw [hse]; exact List.mem_map.2 ⟨q, hq, rfl⟩
      have h8 : seen.contains q.born = true := by simpa using h9
      rw [hel.2] at h8; cases h8
    have hval : Val P L (.next x false) ty w (nxV K (some (a, e.val))) (ChangeMaps.setBlock w1 it (.mapIter (some b) clock (seen.push e.born) clock)) := fun ρ hρ d pos qI g => by
      simp only [execOp, hρ _ _ hx, Sem.run_bind]
      rw [hrun]
      simp only [nxV, ha]
      rfl
    have hheap : w1.heap = w.heap := by rcases hw1 with rfl | rfl <;> rfl
    have hr1 : w1.heap[it]? = some (.mapIter (some b) clock seen clock) := by rw [hheap]; exact hr
    refine xw hval ⟨some (a, e.val), S ++ [a], (leftOf es (seen.push e.born)).size, rfl, ⟨hfa, hns, by rw [← hn]; exact aau he, rfl⟩, V.KY (seen := seen.push e.born) ⟨hm, ⟨xs ++ [e], ?_, ?_, ?_⟩, rfl⟩ (V.setB (w := w1) (o := .mapIter (some b) clock seen clock) ?_ _)⟩
    · intro q hq
      rcases List.mem_append.1 hq with hq | hq
      · exact hxs q hq
      · rw [List.mem_singleton.1 hq]; exact hel.1
    · rw [Array.toList_push, hse, List.map_append]; rfl
    · rw [List.map_append, List.map_append, hS]; simp [ha]
    · rcases hw1 with rfl | rfl
      · exact H
      · exact H.drew
theorem aa9 {o : Option (α × Value)} (hx : ev L x = some (nxV K o)) : Val P L (.extract x 0) ty w (.bool o.isSome) w := by
  cases o with
  | none => exact GZ hx rfl
  | some p => obtain ⟨a, u⟩ := p; exact GZ hx rfl
theorem Vo {u : Value} (H : V w0 w (F9 K b it f (S ++ [a]) n • F)) (hf : f a = some u) (hx : ev L x = some (.pointer (some ⟨it, 0, none⟩))) : Val P L (.entry x) ty w (.tuple #[K.mk a, u]) w := by
  obtain ⟨es, clock, seen, ⟨hm, ⟨xs, hxs, hse, hS⟩, hn⟩, H⟩ := H.Yi
  intro ρ hρ d pos qI g
  have hne : xs ≠ [] := by
    rintro rfl
    have := congrArg List.length hS
    simp at this
  obtain ⟨ys, e, rfl⟩ : ∃ ys e, xs = ys ++ [e] := ⟨xs.dropLast, xs.getLast hne, (List.dropLast_concat_getLast hne).symm⟩
  have he : e ∈ es.toList := hxs e (by simp)
  have hk : e.key = K.mk a := by
    rw [List.map_append, List.map_append] at hS
    have := List.append_inj_right' hS rfl
    simpa using this
  have hv : e.val = u := by
    have h9 := (hm.2.2 a e.val).2 ⟨e, he, hk, rfl⟩
    rw [hf] at h9; cases h9; rfl
  have hsp : seen = (ys.map (·.born)).toArray.push e.born := by
    apply Array.ext'
    rw [hse]; simp
  have hr := H.get.2
  rw [hsp] at hr
  simp only [execOp, hρ _ _ hx, Sem.run_bind]
  rw [run_entry_at w it b clock _ es clock e hr H.swap.get.2 he hm.1.2.1, hk, hv]
  rfl
end
end Go.Proofs.YtnhhmieghbfalaaGreat
end
