import Derived.Test.YtgofgnlkpeghcaaGreatDoorZ4
import Derived.Test.YtgofgnlkpeghcaaGreatDoorZ8
import Derived.Test.YtgofgnlkpeghcaaGreatDoorZ7
import Derived.Test.YtgofgnlkpeghcaaGreatDoorZ6
import Derived.Test.YtgofgnlkpeghcaaGreatDoorZ3
import Derived.Maps.RangeRun
set_option linter.unusedSimpArgs false
set_option linter.unusedVariables false
/- Texts of mine, joined, their names in short: UList5 UList6 UList7 Grp0 EdM Map. -/
section
namespace Go.Proofs.YtgofgnlkpeghcaaGreatDoor
open Go.RowKit
open _root_.Go.Proofs.Tryz
def EK (op : Int) : Int := if op = 0 then 1 else 0
def ad8 (G : List (List kC)) (N : List kC) (op : Int) : List (List kC) := if op = 1 then qU G N else G
def ad9 (N : List kC) (op : Int) : List kC := if op = 1 then [] else N
def acM (op : Int) : Int := if op = 0 then 0 else op - 1
theorem Y4 {es : List fJ} {k : Nat} (hk : k < es.length) : (es.take (k + 1)).map fJ.says = (es.take k).map fJ.says ++ [(es.getD k default).says] := by
  rw [List.take_succ_eq_append_getElem hk, List.map_append, List.getD_eq_getElem?_getD, List.getElem?_eq_getElem hk]
  rfl
section
variable {w0 w : World} {F : HP} {p : Nat} {G : List (List kC)} {N : List kC} {op : Int} {gv nv v : Value} {gs : List (Value × List fJ)} {now es : List fJ} {a : Int} {d z : Value} {dl il : List Int}
theorem Ei (H : V w0 w (jW p G N op • F)) : iM prog 109 #[.pointer (some ⟨p, 0, none⟩)] w fun v w' => v = .int .i64 (EK op) ∧ V w0 w' (jW p (ad8 G N op) (ad9 N op) (acM op) • F) := by
 unfold EK ad8 ad9 acM
 refine iQ func109 ntmps109 ?_
 refine kQ O (aO (bY O (fE O func140 (oI H) ?_)))
 rintro _ _ ⟨rfl, rfl⟩
 refine jd (vS (iy (aO (aO ?_))))
 obtain ⟨EJ, Di, rG, qK, oU, zi, xg, JW, JX, PK, uw⟩ := (H).Ah
 have hop := oU.2.2.1
 have hop2 := oU.2.2.2.1
 refine aA (mJ O O (bn 0 bV O dQ O (bn 2 dh O aj O (fB aB O (uw).get.2 O (aW (kP O O) (jv O (fun h1 => ?_) (fun h1 => ?_)))))))
 ·(try simp only [aF] at h1)
  have h0 : op = 0 := by omega
  refine mP O (aC (fD results109 O ?_))
  have PD := uw.f5.f5.f5.f5.f5
  have MK := V.qY oU zi xg rfl PD
  subst h0
  exact ⟨O, MK⟩
 ·(try simp only [aF] at h1)
  have h0 : ¬ op = 0 := by omega
  refine iy (aO (bY O (dO O (bn 0 bV O dQ O (bn 2 dh O aj O (fB aB O (uw).get.2 O (aW (lW O O (by omega)) (dO O (bn 0 bV O dQ O (bn 2 dh O aj O (aI (st5 2 uw aj) ?_)))))))))))
  rintro _ w6 H6
  refine ql O (dO O (bn 0 bV O dQ O (bn 2 dh O aj O (fB aB O (H6).get.2 O (aW (kP O O) (jv O (fun h2 => ?_) (fun h2 => ?_)))))))
  ·(try simp only [aF] at h2)
   have h1 : op = 1 := by omega
   have RY := H6.f5.f5.f5.f5.f5
   have PS := V.qY (op := op - 1) ⟨oU.1, oU.2.1, by omega, by omega, oU.2.2.2.2⟩ zi xg rfl RY
   refine aA (bT O (fE O func145 (Fa PS) ?_))
   rintro _ w9 H9
   refine jd (mP O (fD results109 O ?_))
   subst h1
   exact ⟨O, H9⟩
  ·(try simp only [aF] at h2)
   have h1 : ¬ op = 1 := by omega
   refine iy (mP O (fD results109 O ?_))
   rw [if_neg h0, if_neg h1, if_neg h1, if_neg h0]
   exact ⟨O, V.qY ⟨oU.1, oU.2.1, by omega, by omega, oU.2.2.2.2⟩ zi xg O H6.f5.f5.f5.f5.f5⟩
theorem Oi (H : V w0 w F) (hv : EL w0 F 3 v es.length (es.flatMap fJ.enc)) (he : ∀ k, k < es.length → jm w0 F .i32 (es.getD k default).d (es.getD k default).dl ∧ jm w0 F .i32 (es.getD k default).i (es.getD k default).il)
  (hB : ∀ k, k < es.length → EB (es.getD k default).says) (hL : es.length ≤ 16384) :
  iM prog 141 #[v] w fun v' w' => ∃ fs : List fJ, fs.map fJ.says = es.map fJ.says ∧ V w0 w' (Row 183 3 v' fs.length (fs.flatMap fJ.enc) • nX fs • F) := by
 refine iQ func141 ntmps141 ?_
 refine kQ O (kQ O (aO (bY O (aW (fV (hv _ (H)) aV O) (bT O (jd (bg ?_)))))))
 refine gq [(6, _), (7, _)] (fun (⟨k, u⟩ : Nat × Value) => [(3, u), (8, .int .i64 (k : Int))]) (fun (⟨k, u⟩ : Nat × Value) W => k ≤ es.length ∧ ∃ fs : List fJ, fs.map fJ.says = (es.take k).map fJ.says ∧ V w0 W (Row 183 3 u fs.length (fs.flatMap fJ.enc) • nX fs • F)) (fun (⟨k, u⟩ : Nat × Value) => es.length - k) ((0, .slice none 0 0)) rP rP ⟨by omega, [], O, (H.wF none).edL⟩ ?_
 rintro ⟨k, u⟩ w1 ⟨hk, fs, hfs, HL⟩
 dsimp only [List.cons_append, List.nil_append]
 refine jw (aW (fG O O) (rV (dA O (fun h1 => ?_) (fun h1 => ?_))))
 ·(try simp only [aF] at h1)
  refine iy (aO (bg (jw ?_)))
  obtain ⟨bv, ov, cv, ev⟩ := Rd.nR (hv _ (HL.right.right)) (by omega)
  cases ev
  refine aW (dD aV bJ O O (by omega)) (aW (qo (ys := [_, _, _]) (hv _ (HL.right.right)) (by omega) aU O bJ O (o8 fJ.IE (by omega) default) O) ?_)
  have hkl : k < es.length := by omega
  obtain ⟨f1, f2⟩ := he k hkl
  obtain ⟨hb1, hb2⟩ := hB k hkl
  have hb1 : (es.getD k default).dl.length ≤ 35184372087808 := hb1
  have hb2 : (es.getD k default).il.length ≤ 35184372087808 := hb2
  have hfl : fs.length = k := by have h9 := congrArg List.length hfs; simp at h9; omega
  refine iY (fK (l := [_, _, _]) HL cO O) ?_
  rintro _ w2 ⟨b2, rfl, H2⟩
  refine aI (dG 0 (l' := [_, _, _]) (us := [_, _, _]) H2 bJ O O O (aG (aY (by first | rfl | exact Rd.one (f1 _ (H2.right.right.right))) (aY (by first | rfl | exact Rd.one (f2 _ (H2.right.right.right))) bK))) O O) ?_
  rintro _ w3 H3
  refine jd (aA (bT O (aW (dI aU O bJ O O (H3).get.2) (fE O func147 (Aj H3 (fun W HW => f1 _ (HW.right.right.right)) (fun W HW => f2 _ (HW.right.right.right)) (by omega) (by omega)) ?_))))
  rintro _ w4 ⟨d4, s4, rfl, H4⟩
  refine iY (og H4 aV bJ cO O O O (by decide) (by decide)) ?_
  rintro l5 w5 H5
  refine iY (eX H5.f5 aV yw O O O ((H5).aN) (aG (aY (by first | rfl | exact Rd.one ((H5.f2).aN)) (aY (by first | rfl | exact Rd.one ((H5.f3).aN)) bK))) (by omega) (by omega)) ?_
  rintro l6 w6 H6
  have LQ := H6.f2.right
  refine iC O (bZ (aP (aZ (aA (aW (fP O O (by omega)) (bT O (bZ ?_)))))))
  refine dN ((k + 1, l6)) ?_ ?_ ?_ ?_
  ·exact rP
  ·exact rP
  ·(try dsimp only)
   first | done | exact ⟨by omega, _, by rw [List.map_append, hfs, Y4 (by omega)]; rfl, (V.vX (LQ.f4.right.f4.f2.f4.f4).kK.swap.kK.swap.f3).edL⟩
  ·(try dsimp only); omega
 ·(try simp only [aF] at h1)
  refine eH (aT (aT (bU (aZ (bY O (ig O (fD results141 O ?_)))))))
  rw [List.take_of_length_le (by omega)] at hfs
  exact ⟨_, hfs, HL.f2.f2⟩
theorem V.uh {es : List fJ} (H : V w0 w (nX es • F)) {k : Nat} (hk : k < es.length) : jP w .i32 (es.getD k default).d (es.getD k default).dl ∧ jP w .i32 (es.getD k default).i (es.getD k default).il := let ⟨I, h, hI⟩ := H.wC; ⟨(h k hk).1.rd hI, (h k hk).2.rd hI⟩
theorem Fb (H : V w0 w (Row 183 3 v es.length (es.flatMap fJ.enc) • nX es • F)) (hB : ∀ k, k < es.length → EB (es.getD k default).says) (hL : es.length ≤ 16384) :
    iM prog 141 #[v] w fun v' w' => ∃ fs : List fJ, fs.map fJ.says = es.map fJ.says ∧ V w0 w' (Row 183 3 v' fs.length (fs.flatMap fJ.enc) • nX fs • Row 183 3 v es.length (es.flatMap fJ.enc) • nX es • F) :=
  Oi H (fun W HW => HW.aN) (fun k hk => ⟨fun W HW => (HW.right.uh hk).1, fun W HW => (HW.right.uh hk).2⟩) hB hL
theorem Dj (H : V w0 w (Gs v es • F)) (hB : ∀ k, k < es.length → EB (es.getD k default).says) (hL : es.length ≤ 16384) :
    iM prog 141 #[v] w fun v' w' => ∃ fs : List fJ, fs.map fJ.says = es.map fJ.says ∧ V w0 w' (Row 183 3 v' fs.length (fs.flatMap fJ.enc) • nX fs • Gs v es • F) :=
  Oi H (fun W HW => HW.y9) (fun k hk => ⟨fun W HW => HW.afl hk, fun W HW => HW.afm hk⟩) hB hL
end
def ai1 (G : List (List kC)) (N : List kC) : List kC := (qU G N).flatten.reverse.map LM
theorem X0 (G : List (List kC)) : (G.map List.length).sum = G.flatten.length := by
  induction G with
  | nil => rfl
  | cons g G ih => simp only [List.map_cons, List.sum_cons, List.flatten_cons, List.length_append, ih]
theorem RZ {G : List (List kC)} {k : Nat} (hk : k < G.length) : (G.take (k + 1)).flatten = (G.take k).flatten ++ G.getD k [] := by
  rw [List.take_succ_eq_append_getElem hk, List.flatten_append, List.getD_eq_getElem?_getD, List.getElem?_eq_getElem hk]
  simp
theorem WG (G : List (List kC)) (k : Nat) : (G.take k).flatten.length ≤ G.flatten.length := by
  conv => rhs; rw [← List.take_append_drop k G, List.flatten_append, List.length_append]
  omega
section
variable {w0 w : World} {F : HP} {p : Nat} {G : List (List kC)} {N : List kC} {op : Int} {gv nv v u : Value} {gs : List (Value × List fJ)} {now es fs : List fJ} {a : Int} {d z : Value} {dl il : List Int}
theorem Oj (H : V w0 w (jW p G N op • F)) : iM prog 114 #[.pointer (some ⟨p, 0, none⟩)] w fun _ w' => V w0 w' (jW p [] [] 0 • F) := by
 refine iQ func114 ntmps114 ?_
 refine bY O (fE O func140 (oI H) ?_)
 rintro _ _ ⟨rfl, rfl⟩
 refine aW (mG O) (jd (wcE O (fun h1 => ?_)))
 (try simp only [aF] at h1)
 obtain ⟨EJ, Di, rG, qK, oU, zi, xg, JW, JX, PK, uw⟩ := (H).Ah
 refine aA (bT O (aW (jB (pl := #[(0, 4), (4, 1)]) (#[_, _, _, _, _]) bV zeroValue214 (fun w => by kernel_rfl) O (O)) (dO O (aI (dG 0 (l' := [_, _, _, _, _]) (us := [_, _, _, _, _]) uw sizeOf214 O O O (aG (aG (aG (aG (aG bK))))) O O) ?_))))
 rintro _ w3 H3
 refine bZ (kY (.inr O) results114 ?_)
 refine V.zS (gv := .slice none 0 0) (nv := .slice none 0 0) (gs := []) (now := []) ⟨by simp, by decide, by decide, by decide, by simp, by simp⟩ O O O ?_
 exact (((H3.f2.right.f2.right.f2.right.f2.right).wF none).IG none).of_eq (by ac_rfl)
theorem V.aaP (H : V w0 w (Gs v es • F)) : ∀ x ∈ es.flatMap fJ.enc, x.oneCell' = true :=
  V.II (es := es) (w0 := w0) (w := w) (F := F) (H.F9 (qJ (fun I h => h.2) F))
theorem V.IY (H : V w0 w (rQ gs • F)) {k : Nat} {gl : Value} {Ac : List fJ} (hk : k < gs.length) (hg : gs.getD k default = (gl, Ac)) : V w0 w (Gs gl Ac • rQ gs • F) := by
  have := H.Uh hk
  rwa [hg] at this
end
theorem Y5 {G : List (List kC)} {k : Nat} (hk : k < G.length) : G.take (k + 1) = G.take k ++ [G.getD k []] := by
  rw [List.take_succ_eq_append_getElem hk, List.getD_eq_getElem?_getD, List.getElem?_eq_getElem hk]
  rfl
theorem MV {G : List (List kC)} {g : List kC} (h : g ∈ G) : g.length ≤ (G.map List.length).sum := by
  induction G with
  | nil => cases h
  | cons x G ih =>
    rw [List.map_cons, List.sum_cons]
    rcases List.mem_cons.1 h with rfl | h
    · omega
    · have := ih h; omega
theorem Uz {es : List fJ} {l : List kC} (h : es.map fJ.says = l) (hl : ∀ e ∈ l, EB e) : ∀ k, k < es.length → EB (es.getD k default).says := fun k hk =>
  hl _ (by rw [← h]; exact List.mem_map_of_mem (Bh hk))
section
variable {w0 w : World} {F : HP} {p : Nat} {G : List (List kC)} {N : List kC} {op : Int}
theorem Ol (H : V w0 w (jW p G N op • F)) : iM prog 101 #[.pointer (some ⟨p, 0, none⟩)] w fun v w' => ∃ q, v = .pointer (some ⟨q, 0, none⟩) ∧ V w0 w' (jW q G N op • jW p G N op • F) := by
 refine iQ func101 ntmps101 ?_
 refine kQ O (aO (bY O (fE O func140 (oI H) ?_)))
 rintro _ _ ⟨rfl, rfl⟩
 refine jd (vS (iy (aO ?_)))
 obtain ⟨EJ, Di, rG, qK, oU, zi, xg, JW, JX, PK, uw⟩ := (H).Ah
 have hLn : qK.length ≤ 16384 := by omega
 have hBn := Uz xg oU.2.2.2.2.2
 refine aA (mJ O O (aW (dI bV O sizeOf214 O O (uw).get.2) (iY (fK (l := [_, _, _, _, _]) uw zeroValue214 O) ?_)))
 rintro _ w3 ⟨b3, rfl, H3⟩
 refine aI (dG 0 (l' := [_, _, _, _, _]) (us := [_, _, _, _, _]) H3 sizeOf214 O O O (aY (by first | rfl | exact Rd.one ((H3.f3).aN)) (aY (by first | rfl | exact Rd.one ((H3.f5).aN)) (aG (aG (aG bK))))) O O) ?_
 rintro _ w4 H4
 refine ql O (dO O (bn 0 bV O dQ O (bn 1 dh O bG O (fB aV O (H4.f2).get.2 O (fE O func141 (Fb H4.f6.f6 hBn hLn) ?_)))))
 rintro u5 w5 ⟨fs5, agT, H5⟩
 obtain ⟨es1, rfl⟩ : ∃ q, q = fs5 := ⟨_, rfl⟩
 have hes1 := agT
 refine bn 0 bV O dQ O (bn 0 dh O iH O (aI (st5 0 H5.f5 iH) ?_))
 rintro _ w6 H6
 refine bn 0 bV O dQ O (bn 1 dh O bG O (aI (eY 1 (l' := [_, _, _, _, _]) H6 bG O O (by first | rfl | exact Rd.one ((H6.f2).aN)) O O) ?_))
 rintro _ w7 H7
 refine rV (bY O (dO O (bn 0 bV O dQ O (bn 0 dh O iH O (fB bP O (H7.f6).get.2 O (aW (fV ((H7.f7).aN) bP O) (bT O (jd (bg ?_)))))))))
 obtain ⟨adq, adr, afE, -⟩ := ((H7.f7).aN).form
 subst afE
 refine gq [(3, _), (25, _), (26, _)] (fun (k : Nat) => [(27, .int .i64 (k : Int))]) (fun (k : Nat) W => k ≤ rG.length ∧ ∃ gu, ∃ hs : List (Value × List fJ), hs.map (fun g => g.2.map fJ.says) = G.take k ∧ V w0 W (eF b3 (.cells #[gu, u5, .int .i64 op, .int .i64 (iD G N : Nat), .bool true] 214 (0, 0)) • Row 96 1 gu hs.length (hs.map (·.1)) • rQ hs • Row 183 3 u5 es1.length (es1.flatMap fJ.enc) • nX es1 • eF p (.cells #[(.slice adq (rG.length) adr), Di, .int .i64 op, .int .i64 (iD G N : Nat), .bool true] 214 (0, 0)) • Row 96 1 (.slice adq (rG.length) adr) rG.length (rG.map (·.1)) • rQ rG • Row 183 3 Di qK.length (qK.flatMap fJ.enc) • nX qK • F)) (fun (k : Nat) => rG.length - k) (0) Du oO ⟨by omega, _, [], O, ((H7.f5.f5.f8.f8.f8.f6.f8.f8).IG none).acD.f5⟩ ?_
 rintro k w9 ⟨hk, gu, hs, VQ, HL⟩
 dsimp only [List.cons_append, List.nil_append]
 refine jw (aW (fG O O) (rV (dA O (fun h1 => ?_) (fun h1 => ?_))))
 ·(try simp only [aF] at h1)
  refine iy (aO (bg (jw ?_)))
  obtain ⟨ail, aim, rfl⟩ := Rd.pos ((HL.f7).aN) (by omega)
  refine aW (dD bP bG O O (by omega)) ?_
  refine aW (eG (dn aV O) O (by first | exact Rd.sO ((HL.f7).aN) (by omega) | exact Rd.EF ((HL.f7).aN) (by omega) | exact Rd.Ey ((HL.f7).aN) (by omega))) ?_
  have hkl : k < rG.length := by omega
  rw [show (rG.map (·.1)).getD k undef = (rG.getD k default).1 from by simp [List.getD_eq_getElem?_getD, hkl]]
  obtain ⟨gl, Ac, hg⟩ : ∃ gl Ac, rG.getD k default = (gl, Ac) := ⟨_, _, rfl⟩
  rw [hg]
  have Om := HL.f8
  have LU := Om.IY hkl hg
  have hge : Ac.map fJ.says = G.getD k [] := by
   rw [← zi]
   have h9 : (rG.map (fun g => g.2.map fJ.says)).getD k [] = (rG.getD k default).2.map fJ.says := by simp [List.getD_eq_getElem?_getD, hkl]
   rw [h9, hg]
  have hgm : G.getD k [] ∈ G := Bh (by omega)
  have hBg := Uz hge (oU.2.2.2.2.1 _ hgm)
  have hLg : Ac.length ≤ 16384 := by
   have h8 := oU.2.1
   unfold iD at h8
   have h7 := congrArg List.length hge
   rw [List.length_map] at h7
   have h6 := MV hgm
   omega
  have hhl := congrArg List.length VQ
  rw [List.length_map, List.length_take] at hhl
  refine iP O ?_
  have ads := LU.drew
  have Oo := V.kp (ads.f11.f11.f11.f11.f11.f11.f11.f11.f11.f11.f11)
  refine uU [2] Oo O (fQ 0 O Oo 0 bV O dQ O (fQ 1 O Oo 0 dh O iH O (iO 2 O Oo (fun W hW => jT bP O ((Kp.h hW).f3).get.2 O) (gQ 3 O Oo O (lU 4 O (wY O func141 (Dj ads hBg hLg)) ?_)))))
  rintro u12 w12 ⟨aaO, adp, tN⟩
  obtain ⟨es2, rfl⟩ : ∃ q, q = aaO := ⟨_, rfl⟩
  have hes2 := adp
  have DF := V.kp (tN.f13.f13.f13.f13.f13.f13.f13.f13.f13.f13.f13.f13.f13)
  refine dZ DF (fun W hW => (Kp.h hW).right.right.f11.f11.f11.f11.f11.f11.f11.f11.f11.f11.f11) ?_
  refine lU 5 O (kU (vs := [_]) tN bP bG pV O O O (by decide) (aY (by first | rfl | exact Rd.one ((tN).aN)) bK)) ?_
  rintro l13 Qz Ak
  have Oe := V.kp (Ak.f14.f14.f14.f14.f14.f14.f14.f14.f14.f14.f14.f14.f14.f14)
  refine dZ Oe (fun W hW => (Kp.h hW).right.f13.f13.f13.f13.f13.f13.f13.f13.f13.f13.f13.f13.f13) ?_
  refine lU 6 O (eX Ak.f7 bP KI O O O ((Ak).aN) (aY (by first | rfl | exact Rd.one ((Ak.f2).aN)) bK) (by omega) (by omega)) ?_
  rintro l14 TL Dh
  have aea := Dh.f2.right
  have CO := V.kp (aea.f13.f13.f13.f13.f13.f13.f13.f13.f13.f13.f13.f13.f13)
  refine fH CO (by kernel_rfl) ?_
  refine fQ 7 O CO 0 bV O dQ O (fQ 8 O CO 0 dh O iH O ?_)
  refine gU 9 O (by kernel_rfl) (eY 0 (l' := [_, _, _, _, _]) aea.f6 iH O O (by first | rfl | exact Rd.one ((aea).aN)) O O) ?_
  rintro _ w16 yj
  have IZ := V.kp (yj.f13.f13.f13.f13.f13.f13.f13.f13.f13.f13.f13.f13.f13)
  refine fH IZ (by kernel_rfl) ?_
  have X := V.uJ (es := es2) (yj.f5.right.f12.f12.f7.f12.f12.f12.f12.f8.f12.f10.f12.f12).deep
  have HN := (V.wO X.swap).acD.f3
  have hnew : (hs ++ [(u12, es2)]).map (fun g => g.2.map fJ.says) = G.take (k + 1) := by rw [List.map_append, VQ, Y5 (by omega), ← hge, ← hes2]; rfl
  refine qj (aP (aZ (aA (aW (fP O O (by omega)) (bT O (bZ ?_))))))
  refine dN (k + 1) ?_ ?_ ?_ ?_
  ·exact oO
  ·exact Du
  ·(try dsimp only)
   first | done | exact ⟨by omega, _, _, hnew, HN⟩
  ·(try dsimp only); omega
 ·(try simp only [aF] at h1)
  refine eH (aT (aT (bU (aZ (mP O (fD results101 O ?_))))))
  rw [List.take_of_length_le (by omega)] at VQ
  have X := V.qY (gs := hs) (now := es1) oU VQ (hes1.trans xg) rfl (HL.f10.f10.f10.f10.f10.f10.f10.f10.f10.f10)
  have Y := V.qY oU zi xg rfl X.f6.f6.f6.f6.f6
  exact ⟨_, O, Y.swap⟩
end
end Go.Proofs.YtgofgnlkpeghcaaGreatDoor
end
section
namespace Go.Proofs.YtgofgnlkpeghcaaGreatDoor
open Go.RowKit
def Ho (G : List (List kC)) (N : List kC) : List (List kC) := (qU G N).reverse
def Si (N : List kC) : List (List kC) := if N = [] then [] else [N]
theorem aaQ (N : List kC) : (Si N).length ≤ 1 := by unfold Si; split <;> simp
theorem acN (G : List (List kC)) (N : List kC) : Ho G N = Si N ++ G.reverse := by
  unfold Ho Si qU; split <;> simp
def sV {β : Type} (f : Int → β) (a : Int) (v : β) : Int → β := fun x => if x = a then v else f x
theorem kL {β : Type} (f : Int → β) (a : Int) (v : β) : sV f a v a = v := if_pos rfl
theorem uK {β : Type} (f : Int → β) {a x : Int} (v : β) (h : x ≠ a) : sV f a v x = f x := if_neg h
theorem acO {β : Type} (f : Int → β) (a : Int) : sV f a (f a) = f := by funext x; unfold sV; split <;> simp_all
structure qQ where
  L : List Int
  pt : Int
  mark : Int
  E : List (List Int)
  at_ : Nat
  place : Int
  tx : Int → Option ByteArray
  un : Int → List (List kC)
  mode : Int
  over : Bool
  last : Int
  fr : Int
  to : Int
  res : Int
  run : Bool
structure dw where
  c : qQ
  hl : List oH
  base : Int
  most : Int
  sK : Int
  given : Bool
  minus : Bool
  arg : Int
  inn : Bool
  was : qQ
  cls : Int
  nV : Bool
  lY : Bool
  argues : Bool
  whole : Bool
  put : List kC
def Sj (hl : List oH) (k : Int) : oH := if 0 ≤ k ∧ k < hl.length then hl.getD k.toNat default else (.empty, 0)
def vC (hl : List oH) (k : Int) : ByteArray := (Sj hl k).1
def dR (hl : List oH) (tx : Int → Option ByteArray) (k : Int) : ByteArray := (tx k).getD (vC hl k)
def zF (hl : List oH) (tx : Int → Option ByteArray) (place : Int) (k : Nat) : Bool := decide ((k : Int) ≠ place) && !((dR hl tx k).toList == (vC hl k).toList)
def o9 (hl : List oH) (tx : Int → Option ByteArray) (place : Int) (n : Nat) : List (Int × ByteArray) := ((List.range n).filter (zF hl tx place)).map fun (k : Nat) => ((k : Int), dR hl tx k)
def pW (hl : List oH) (tx : Int → Option ByteArray) (place : Int) : List (Int × ByteArray) := o9 hl tx place hl.length ++ (if place ≠ hl.length then [((hl.length : Int), dR hl tx hl.length)] else [])
def uM (G : List (List kC)) (inn : Bool) (put : List kC) (typed run : Bool) : Int := (G.length : Int) + if inn && !put.isEmpty && !(typed && run) then 1 else 0
namespace dw
variable (s : dw)
def here : List (List kC) := s.c.un s.c.place
def qR (G : List (List kC)) : dw := { s with c := { s.c with un := sV s.c.un s.c.place G } }
def DI : Int := if s.inn then 0 else 1
def yx : Int := if s.inn then 1 else 0
def lg : dw := if s.inn then s else { s with inn := true, was := s.c, cls := 0, nV := false, lY := false, argues := false, whole := true, put := [] }
def lF (on : Bool) : List (List kC) := if s.put = [] then s.here else if on then (match s.here.getLast? with | some g => s.here.dropLast ++ [g ++ s.put] | none => [s.put]) else s.here ++ [s.put]
def fM (on : Bool) : dw := if s.put = [] then s else { s.qR (s.lF on) with put := [] }
def zU : dw := { s with given := false, minus := false, arg := -1 }
def EK (err : Int) : Int := if s.inn then err else 1
def Dk : dw := { s.zU with inn := false, c := { s.was with last := 0, fr := 0, to := 0 }, sK := IntKind.i64.wrap (s.sK + 1), put := [] }
def typed : Bool := s.cls == 3 && s.whole
def lG : dw := { (if s.argues then s else s.zU) with inn := false }
def oJ : dw :=
  let t := s.lG.fM (s.typed && s.c.run)
  let c := { t.c with run := s.typed && (!s.put.isEmpty || s.c.run), last := s.cls }
  { t with c := if s.cls ≠ 2 then { c with fr := 0, to := 0 } else c }
def uy (err : Int) : dw := if s.inn then (if err = 0 then s.oJ else s.Dk) else s
def BM (x : kC) : dw :=
  if x.2.1.length + x.2.2.length = 0 then s else
  if 16384 ≤ iD s.here s.put then { s.qR [] with put := [x], c := { (s.qR []).c with run := false } } else { s with put := s.put ++ [x] }
def nC (L : List Int) (pt mk : Int) : dw := { s with c := { s.c with L := L, pt := pt, mark := mk } }
def uf (i j : Int) (l : List Int) : Int := if s.inn then qx s.c.L i j l else 1
def wU (i j : Int) (l : List Int) : dw := if s.inn then (s.nC (wP s.c.L i j l) (wQ s.c.L s.c.pt i j l) (wR s.c.L s.c.mark i j l)).BM (vY s.c.L i j l, rC s.c.L i j l, rD s.c.L i j l) else s
def Y6 (l : List Int) : Int := s.uf s.c.pt s.c.pt l
def WH (l : List Int) : dw := s.wU s.c.pt s.c.pt l
def JY (l : List Int) : Int := if s.c.over then min (s.c.pt + l.length) s.c.L.length else s.c.pt
def aaR (l : List Int) : Int := s.uf s.c.pt (s.JY l) l
def Gv (l : List Int) : dw := if s.inn then (let t := s.wU s.c.pt (s.JY l) l; if s.aaR l = 0 ∧ s.cls = 0 then { t with cls := 3 } else t) else s
def way (back : Bool) : Int := if s.c.last = 1 ∨ s.nV = true then (if back then 2 else 1) else 0
def Sl (i j : Int) : Prop := i < 0 ∨ s.c.L.length < i ∨ j < i ∨ s.c.L.length < j
instance (i j : Int) : Decidable (s.Sl i j) := by unfold Sl; infer_instance
def cut (i j : Int) : List Int := (s.c.L.drop i.toNat).take (j.toNat - i.toNat)
def aaS (i j : Int) (back : Bool) : Int × List (List Int) × Nat := afy s.c.E s.c.at_ (s.way back) (s.cut i j)
def X3 (i j : Int) (back : Bool) : Int := if s.inn then (if s.Sl i j then 70 else (s.aaS i j back).1) else 1
def Sm (E : List (List Int)) (a : Nat) : dw := { s with c := { s.c with E := E, at_ := a } }
def adt (i j : Int) (back : Bool) : dw := if s.X3 i j back = 0 then { s.Sm (s.aaS i j back).2.1 (s.aaS i j back).2.2 with nV := true, cls := 1 } else s
def ain (i j : Int) (back : Bool) : Int := if s.X3 i j back = 0 then (s.adt i j back).uf i j [] else s.X3 i j back
def aio (i j : Int) (back : Bool) : dw := if s.X3 i j back = 0 then (s.adt i j back).wU i j [] else s
def top : List Int := s.c.E.getD s.c.at_ []
def afF : Int := if s.inn then (if s.c.E.length = 0 then 6 else s.Y6 s.top) else 1
def aip : dw :=
  if s.afF = 0 then
    let t := s.WH s.top
    { t with lY := true, cls := 2, c := { t.c with mark := smM t.c.L t.c.mark s.c.pt, fr := s.c.pt, to := s.c.pt + s.top.length } }
  else s
def aeb (n : Int) : List Int := s.c.E.getD (JU s.c.E.length s.c.at_ n) []
def agU (n : Int) : Int := if s.inn then (if s.c.last ≠ 2 ∨ s.lY = true then 6 else if s.c.E.length = 0 then 6 else s.uf s.c.fr s.c.to (s.aeb n)) else 1
def ai2 (n : Int) : dw :=
  if s.agU n = 0 then
    let t := s.wU s.c.fr s.c.to (s.aeb n)
    { t with lY := true, cls := 2, c := { t.c with E := s.c.E, at_ := JU s.c.E.length s.c.at_ n, fr := s.c.fr, to := s.c.fr + (s.aeb n).length } }
  else s
def kills : List (List Int) := s.c.E.drop s.c.at_ ++ s.c.E.take s.c.at_
def Gw (x : Int) : Int := if s.inn then mvE s.c.L.length x else 1
def yA (x : Int) : dw := if s.inn then s.nC s.c.L (YW s.c.L.length s.c.pt x) s.c.mark else s
def aiq (x : Int) : Int := if s.inn then smE s.c.L x else 1
def air (x : Int) : dw := if s.inn then s.nC s.c.L s.c.pt (smM s.c.L s.c.mark x) else s
def ais : Int := if s.inn then swE s.c.mark else 1
def ait : dw := if s.inn then s.nC s.c.L (swP s.c.pt s.c.mark) (swM s.c.pt s.c.mark) else s
def agV (b : List Int × Int × Int) (x : kC) : List Int × Int × Int := (agP b.1 x.1 x.2.1 x.2.2, agQ b.1 b.2.1 x.1 x.2.1 x.2.2, agR b.1 b.2.2 x.1 x.2.1 x.2.2)
def apps (b : List Int × Int × Int) (l : List kC) : List Int × Int × Int := l.foldl agV b
def X5 (l : List kC) : dw := let b := apps (s.c.L, s.c.pt, s.c.mark) l; s.nC b.1 b.2.1 b.2.2
def I4 : dw := { s with whole := false, c := { s.c with run := false } }
def aiu : dw := if s.inn then (let t := s.fM false; if t.here = [] then t else ((t.qR t.here.dropLast).X5 ((t.here.getLastD []).reverse.map LM)).I4) else s
def aaN : Int := if s.inn then (if (s.fM false).here = [] then 6 else 0) else 1
def ai3 : dw := if s.inn then (let t := s.fM false; if t.here = [] then t else ((t.qR []).X5 (t.here.flatten.reverse.map LM)).I4) else s
def aec (d : Int) : Int := if s.inn then (if d < 0 ∨ 9 < d then 1 else 0) else 1
def agW (d : Int) : dw := if s.aec d = 0 then { s with given := true, argues := true, arg := min (max s.arg 0 * 10 + d) 1000000 } else s
def ai4 : dw := if s.inn then { s with given := true, argues := true, minus := !s.minus } else s
def agX (n : Int) : Int := if s.inn then (if 1000000 < n ∨ n < -1000000 then 1 else 0) else 1
def ai5 (n : Int) : dw := if s.agX n = 0 then { s with given := true, argues := true, minus := decide (n < 0), arg := max n (-n) } else s
def count : Int := if s.given then (let n := if s.arg < 0 then 1 else s.arg; if s.minus then -n else n) else 1
def afG (m : Int) : Int := if s.inn then (if m < 0 ∨ 2 < m then 1 else 0) else 1
def aiv (m : Int) : dw := if s.afG m = 0 then { s with c := { s.c with mode := m } } else s
def aiw (b : Bool) : dw := if s.inn then { s with c := { s.c with over := b } } else s
def agY (r : Int) : Int := if s.inn then (if r < 1 ∨ 3 < r then 1 else 0) else 1
def ai6 (r : Int) : dw := if s.agY r = 0 then { s with c := { s.c with res := r } } else s
def first (k : Int) : ByteArray := vC s.hl k
def stands (k : Int) : ByteArray := (s.c.tx k).getD (s.first k)
def Oq : Int := uM s.here s.inn s.put s.typed s.c.run
def saved : List (Int × ByteArray) := pW s.hl s.c.tx s.c.place
def zV : Int := if s.inn then s.was.last else s.c.last
def UA : Int := if s.inn then s.was.fr else s.c.fr
def UC : Int := if s.inn then s.was.to else s.c.to
end dw
def qQ.fresh (l : List Int) (E : List (List Int)) (a : Nat) (place mode : Int) : qQ := ⟨l, l.length, -1, E, a, place, fun _ => none, fun _ => [], mode, false, 0, 0, 0, 0, false⟩
def dw.start (s : dw) (hl : List oH) (base most : Int) (l : List Int) : dw := { s with c := qQ.fresh l s.c.E s.c.at_ hl.length s.c.mode, hl := hl, base := base, most := most, given := false, minus := false, arg := -1 }
def dw.new (hl : List oH) (base most : Int) : dw :=
  let c := qQ.fresh [] [] 0 hl.length 0
  { c := c, hl := hl, base := base, most := most, sK := 0, given := false, minus := false, arg := -1, inn := false, was := c, cls := 0, nV := false, lY := false, argues := false, whole := false, put := [] }
end Go.Proofs.YtgofgnlkpeghcaaGreatDoor
end
section
namespace Go.Proofs.YtgofgnlkpeghcaaGreatDoor
open Go.RowKit Go.MapKept
structure Key (α : Type) where
  mkKey ::
  d : TypeDesc
  mk : α → Value
  key : ∀ a, IsKey d (mk a)
  inj : ∀ a b, mk a = mk b → a = b
  onto : ∀ v, IsKey d v → ∃ a, mk a = v
def Gj (k : IntKind) : Key Int := ⟨.int k, .int k, fun _ => rfl, fun _ _ h => by cases h; rfl, fun v h => by
  cases v <;> simp [IsKey] at h
  subst h
  exact ⟨_, rfl⟩⟩
abbrev vF : Key Int := Gj .i64
abbrev ai7 : Key Int := Gj .i32
def ai8 : Key ByteArray := ⟨.string, .string, fun _ => trivial, fun _ _ h => by cases h; rfl, fun v h => by
  cases v <;> simp [IsKey] at h
  exact ⟨_, rfl⟩⟩
section
variable {α : Type} {K : Key α} {f : α → Option Value} {es : Array MapEntry} {clock : Nat}
def Gx (K : Key α) (f : α → Option Value) (es : Array MapEntry) (clock : Nat) : Prop :=
  Stamped es clock ∧ (∀ x ∈ es.toList, IsKey K.d x.key) ∧ ∀ a v, f a = some v ↔ ∃ x ∈ es.toList, x.key = K.mk a ∧ x.val = v
def jM (K : Key α) (b : Nat) (f : α → Option Value) : HP := yC fun (x : Array MapEntry × Nat) => fact (Gx K f x.1 x.2) • eF b (.map x.1 x.2)
def upd [DecidableEq α] {β : Type} (f : α → Option β) (a : α) (v : β) : α → Option β := fun x => if x = a then some v else f x
theorem Gx.same (h : Gx K f es clock) {x y : MapEntry} (hx : x ∈ es.toList) (hy : y ∈ es.toList) (e : x.key = y.key) : x = y := by
  have hn := h.1.2.2
  rw [List.Nodup, List.pairwise_map] at hn
  exact DJ hn hx hy e
where
  DJ : ∀ {l : List MapEntry}, l.Pairwise (fun x y => x.key ≠ y.key) → ∀ {x y : MapEntry}, x ∈ l → y ∈ l → x.key = y.key → x = y
    | [], _, _, _, hx, _, _ => by cases hx
    | z :: l, hp, x, y, hx, hy, e => by
      rw [List.pairwise_cons] at hp
      rcases List.mem_cons.1 hx with hx1 | hx1
      · rcases List.mem_cons.1 hy with hy1 | hy1
        · rw [hx1, hy1]
        · exact absurd (by rw [← hx1]; exact e) (hp.1 _ hy1)
      · rcases List.mem_cons.1 hy with hy1 | hy1
        · exact absurd (by rw [← hy1]; exact e.symm) (hp.1 _ hx1)
        · exact DJ hp.2 hx1 hy1 e
theorem X6 : ∀ {l : List MapEntry}, (l.map (·.born)).Nodup → ∀ {x y : MapEntry}, x ∈ l → y ∈ l → x.born = y.born → x = y
  | [], _, _, _, hx, _, _ => by cases hx
  | z :: l, hp, x, y, hx, hy, e => by
    rw [List.map_cons, List.nodup_cons] at hp
    rcases List.mem_cons.1 hx with hx1 | hx1
    · rcases List.mem_cons.1 hy with hy1 | hy1
      · rw [hx1, hy1]
      · exact absurd (List.mem_map.2 ⟨y, hy1, by rw [← hx1]; exact e.symm⟩) hp.1
    · rcases List.mem_cons.1 hy with hy1 | hy1
      · exact absurd (List.mem_map.2 ⟨x, hx1, by rw [← hy1]; exact e⟩) hp.1
      · exact X6 hp.2 hx1 hy1 e
theorem Gx.find (h : Gx K f es clock) (a : α) : (Instr.findNow K.d (K.mk a) es.toList 0 = some none ∧ f a = none ∧ ∀ x ∈ es.toList, x.key ≠ K.mk a) ∨
    ∃ j e, Instr.findNow K.d (K.mk a) es.toList 0 = some (some (j, e.val)) ∧ es.toList[j]? = some e ∧ e.key = K.mk a ∧ f a = some e.val := by
  rcases findNow_spec (K.key a) es.toList 0 h.2.1 with ⟨h1, h2⟩ | ⟨j, e, h1, h2, h3⟩
  · refine .inl ⟨h1, ?_, h2⟩
    cases hf : f a with
    | none => rfl
    | some v =>
      obtain ⟨x, hx, hk, _⟩ := (h.2.2 a v).1 hf
      exact absurd hk (h2 x hx)
  · refine .inr ⟨j, e, by simpa using h1, h2, h3, (h.2.2 a e.val).2 ⟨e, List.mem_of_getElem? h2, h3, rfl⟩⟩
theorem UD (K : Key α) : Gx K (fun _ => none) #[] 0 := ⟨stamped_empty 0, by simp, by simp⟩
end
section
variable {α : Type} {K : Key α} {f : α → Option Value} {es : Array MapEntry} {clock : Nat} {P : Program} {L : List (Nat × Value)} {w w0 : World} {ty : TypeId} {x y z : Operand} {F : HP} {b it n : Nat} {a : α} {S : List α}
theorem V.map (H : V w0 w (jM K b f • F)) : ∃ es clock, Gx K f es clock ∧ V w0 w (eF b (.map es clock) • F) := by
  obtain ⟨⟨es, clock⟩, H⟩ := H.pO
  obtain ⟨h, H⟩ := H.flat.fact
  exact ⟨es, clock, h, H⟩
theorem V.Sr (h : Gx K f es clock) (H : V w0 w (eF b (.map es clock) • F)) : V w0 w (jM K b f • F) := V.jG (es, clock) (V.deep (V.oG h H))
theorem UE {t kt et : TypeId} {zv : Value} (ok : Bool) (h : Gx K f es clock) (hb : w.heap[b]? = some (.map es clock)) (ht : P.underlying t = some (.map kt et)) (hk : P.underlying kt = some K.d) (hz : (zeroValue et).run P w = .ok zv w) :
    (Instr.lookup t (.map (some b)) (K.mk a) ok).run P w = .ok (if ok then .tuple #[(f a).getD zv, .bool (f a).isSome] else (f a).getD zv) w := by
  rcases h.find a with ⟨h1, h2, _⟩ | ⟨j, e, h1, h2, h3, h4⟩
  · simp [Instr.lookup, run_underlying ht, MapKept.run_getObj_map hb, MapKept.run_checkKey hk (K.key a), MapKept.run_findKey hk h1, hz, Result.andThen, h2]
  · simp [Instr.lookup, run_underlying ht, MapKept.run_getObj_map hb, MapKept.run_checkKey hk (K.key a), MapKept.run_findKey hk h1, Result.andThen, h4]
theorem UF {t kt et : TypeId} {zv : Value} (H : V w0 w (jM K b f • F)) (ht : P.underlying t = some (.map kt et)) (hk : P.underlying kt = some K.d) (hz : ∀ w, (zeroValue et).run P w = .ok zv w)
    (hx : ev L x = some (.map (some b))) (hy : ev L y = some (K.mk a)) : Val P L (.lookup t x y false) ty w ((f a).getD zv) w := fun ρ hρ _ _ _ _ => by
  obtain ⟨es, clock, h, H⟩ := H.map
  simp only [execOp, hρ _ _ hx, hρ _ _ hy, Sem.run_bind]
  rw [UE false h H.get.2 ht hk (hz w)]
  rfl
theorem UG {t kt et : TypeId} {zv : Value} (H : V w0 w (jM K b f • F)) (ht : P.underlying t = some (.map kt et)) (hk : P.underlying kt = some K.d) (hz : ∀ w, (zeroValue et).run P w = .ok zv w)
    (hx : ev L x = some (.map (some b))) (hy : ev L y = some (K.mk a)) : Val P L (.lookup t x y true) ty w (.tuple #[(f a).getD zv, .bool (f a).isSome]) w := fun ρ hρ _ _ _ _ => by
  obtain ⟨es, clock, h, H⟩ := H.map
  simp only [execOp, hρ _ _ hx, hρ _ _ hy, Sem.run_bind]
  rw [UE true h H.get.2 ht hk (hz w)]
  rfl
theorem pq {t : TypeId} (K : Key α) (H : V w0 w F) : zB P L (.makeMap t none) ty w fun v w' => ∃ b, v = .map (some b) ∧ V w0 w' (jM K b (fun _ => none) • F) := by
  refine wM (v := .map (some w.heap.size)) (w' := w.alloc (.map #[] 0)) ?_ ⟨_, rfl, V.Sr (UD K) (H.alloc _)⟩
  intro ρ hρ d pos rF g
  simp only [execOp, Sem.run_bind, Option.map_none]
  rfl
theorem UH {o : Obj} {b : Nat} (h : w.heap[b]? = some o) (o' : Obj) : ({ w with heap := w.heap.setIfInBounds b o' } : World).heap[b]? = some o' ∧ ∀ k, k ≠ b → ({ w with heap := w.heap.setIfInBounds b o' } : World).heap[k]? = w.heap[k]? := by
  have hlt := lt_of_block h
  exact ⟨by simp [hlt], fun k hk => by simp [Ne.symm hk]⟩
theorem V.setB {o : Obj} (H : V w0 w (eF b o • F)) (o' : Obj) : V w0 (ChangeMaps.setBlock w b o') (eF b o' • F) :=
  V.turn (w := w) (w' := ChangeMaps.setBlock w b o') H rfl rfl rfl (by simp [ChangeMaps.setBlock]) (UH H.get.2 o').1 fun k hk _ => (UH H.get.2 o').2 k hk
theorem CP [DecidableEq α] {t kt et : TypeId} {v : Value} (H : V w0 w (jM K b f • F)) (ht : P.underlying t = some (.map kt et)) (hk : P.underlying kt = some K.d)
    (hx : ev L x = some (.map (some b))) (hy : ev L y = some (K.mk a)) (hz : ev L z = some v) : zB P L (.mapUpdate t x y z) ty w fun _ w' => V w0 w' (jM K b (upd f a v) • F) := by
  obtain ⟨es, clock, h, H⟩ := H.map
  have hb := H.get.2
  rcases h.find a with ⟨h1, h2, h3⟩ | ⟨j, e, h1, h2, h3, h4⟩
  · have hrun : (Instr.mapUpdate t (.map (some b)) (K.mk a) v).run P w = .ok () (ChangeMaps.setBlock w b (.map (es.push { key := K.mk a, val := v, born := clock }) (clock + 1))) := by
      simp [ChangeMaps.setBlock, Instr.mapUpdate, run_underlying ht, MapKept.run_getObj_map hb, MapKept.run_checkKey hk (K.key a), MapKept.run_findKey hk h1, MapKept.run_setObj_map _ hb, Result.andThen]
    refine Nr (w' := ChangeMaps.setBlock w b (.map (es.push { key := K.mk a, val := v, born := clock }) (clock + 1))) (fun ρ hρ d pos rF g => ?_) (V.Sr (es := es.push { key := K.mk a, val := v, born := clock }) (clock := clock + 1) ⟨stamped_push h.1 h3, ?_, ?_⟩ (H.setB _))
    · simp only [execOp, hρ _ _ hx, hρ _ _ hy, hρ _ _ hz, Sem.run_bind]
      rw [hrun]; rfl
    · intro q hq
      simp only [Array.toList_push, List.mem_append, List.mem_singleton] at hq
      rcases hq with hq | rfl
      · exact h.2.1 q hq
      · exact K.key a
    · intro c u
      simp only [Array.toList_push, List.mem_append, List.mem_singleton, upd]
      by_cases hc : c = a
      · subst hc
        rw [if_pos rfl]
        constructor
        · intro hu; cases hu; exact ⟨_, .inr rfl, rfl, rfl⟩
        · rintro ⟨q, hq | rfl, hqk, hqv⟩
          · exact absurd hqk (h3 q hq)
          · rw [← hqv]
      · rw [if_neg hc, h.2.2 c u]
        constructor
        · rintro ⟨q, hq, hqk, hqv⟩; exact ⟨q, .inl hq, hqk, hqv⟩
        · rintro ⟨q, hq | rfl, hqk, hqv⟩
          · exact ⟨q, hq, hqk, hqv⟩
          · exact absurd (K.inj _ _ hqk).symm hc
  · have hj : es[j]? = some e := by simpa using h2
    have hrun : (Instr.mapUpdate t (.map (some b)) (K.mk a) v).run P w = .ok () (ChangeMaps.setBlock w b (.map (es.modify j fun e => { e with key := K.mk a, val := v }) clock)) := by
      simp [ChangeMaps.setBlock, Instr.mapUpdate, run_underlying ht, MapKept.run_getObj_map hb, MapKept.run_checkKey hk (K.key a), MapKept.run_findKey hk h1, hj, h3, MapKept.run_keyThatStays (K.key a), MapKept.run_setObj_map _ hb, Result.andThen]
    have hkey : ∀ e', es[j]? = some e' → ({ e' with key := K.mk a, val := v } : MapEntry).key = e'.key := fun e' he' => by rw [hj] at he'; cases he'; exact h3.symm
    have hst : Stamped (es.modify j fun e => { e with key := K.mk a, val := v }) clock := stamped_modify h.1 _ _ (fun _ _ => rfl) (fun e' _ he' => hkey e' he')
    have hmem : ∀ q, q ∈ (es.modify j fun e => { e with key := K.mk a, val := v }).toList ↔ (q = { e with key := K.mk a, val := v } ∨ q ∈ es.toList ∧ q.key ≠ K.mk a) := by
      intro q
      have hee : e ∈ es.toList := List.mem_of_getElem? h2
      constructor
      · intro hq
        obtain ⟨i, hi⟩ := List.getElem?_of_mem hq
        rw [Array.getElem?_toList, Array.getElem?_modify] at hi
        by_cases hij : j = i
        · subst hij
          rw [if_pos rfl, hj] at hi
          exact .inl (by simpa using hi.symm)
        · rw [if_neg hij] at hi
          have hqm : q ∈ es.toList := Array.mem_toList_iff.2 (Array.mem_of_getElem? hi)
          refine .inr ⟨hqm, fun hqk => ?_⟩
          have he : q = e := h.same hqm hee (hqk.trans h3.symm)
          subst he
          have hn := h.1.2.1
          have h5 : (es.toList.map (·.born))[i]? = some q.born := by rw [List.getElem?_map, Array.getElem?_toList, hi]; rfl
          have h6 : (es.toList.map (·.born))[j]? = some q.born := by rw [List.getElem?_map, h2]; rfl
          have hlt : i < (es.toList.map (·.born)).length := (List.getElem?_eq_some_iff.1 h5).1
          have hlt2 : j < (es.toList.map (·.born)).length := (List.getElem?_eq_some_iff.1 h6).1
          exact hij ((List.getElem?_inj hlt2 hn).1 (h6.trans h5.symm))
      · rintro (rfl | ⟨hq, hqk⟩)
        · apply List.mem_of_getElem? (i := j)
          rw [Array.getElem?_toList, Array.getElem?_modify, if_pos rfl, hj]; rfl
        · obtain ⟨i, hi⟩ := List.getElem?_of_mem hq
          have hij : j ≠ i := by
            rintro rfl
            rw [h2] at hi; cases hi
            exact hqk h3
          apply List.mem_of_getElem? (i := i)
          rw [Array.getElem?_toList, Array.getElem?_modify, if_neg hij]
          rwa [Array.getElem?_toList] at hi
    refine Nr (w' := ChangeMaps.setBlock w b (.map (es.modify j fun e => { e with key := K.mk a, val := v }) clock)) (fun ρ hρ d pos rF g => ?_) (V.Sr (es := es.modify j fun e => { e with key := K.mk a, val := v }) (clock := clock) ⟨hst, isKey_modify h.2.1 _ _ hkey, ?_⟩ (H.setB _))
    · simp only [execOp, hρ _ _ hx, hρ _ _ hy, hρ _ _ hz, Sem.run_bind]
      rw [hrun]; rfl
    · intro c u
      simp only [hmem, upd]
      by_cases hc : c = a
      · subst hc
        rw [if_pos rfl]
        constructor
        · intro hu; cases hu; exact ⟨_, .inl rfl, rfl, rfl⟩
        · rintro ⟨q, rfl | ⟨hq, hqn⟩, hqk, hqv⟩
          · rw [← hqv]
          · exact absurd hqk hqn
      · rw [if_neg hc, h.2.2 c u]
        constructor
        · rintro ⟨q, hq, hqk, hqv⟩
          exact ⟨q, .inr ⟨hq, fun hqa => hc (K.inj _ _ (hqk.symm.trans hqa))⟩, hqk, hqv⟩
        · rintro ⟨q, rfl | ⟨hq, hqn⟩, hqk, hqv⟩
          · exact absurd (K.inj _ _ hqk).symm hc
          · exact ⟨q, hq, hqk, hqv⟩
def aed (K : Key α) (f : α → Option Value) (es : Array MapEntry) (clock : Nat) (seen : Array Nat) (S : List α) (n : Nat) : Prop :=
  Gx K f es clock ∧ (∃ xs : List MapEntry, (∀ x ∈ xs, x ∈ es.toList) ∧ seen.toList = xs.map (·.born) ∧ xs.map (·.key) = S.map K.mk) ∧ (leftOf es seen).size = n
def I5 (K : Key α) (b it : Nat) (f : α → Option Value) (S : List α) (n : Nat) : HP := yC fun (x : Array MapEntry × Nat × Array Nat) => fact (aed K f x.1 x.2.1 x.2.2 S n) • eF it (.mapIter (some b) x.2.1 x.2.2 x.2.1) • eF b (.map x.1 x.2.1)
theorem V.aaT (H : V w0 w (I5 K b it f S n • F)) : ∃ es clock seen, aed K f es clock seen S n ∧ V w0 w (eF it (.mapIter (some b) clock seen clock) • eF b (.map es clock) • F) := by
  obtain ⟨⟨es, clock, seen⟩, H⟩ := H.pO
  obtain ⟨h, H⟩ := H.flat.fact
  exact ⟨es, clock, seen, h, H.flat⟩
theorem V.Ot {seen : Array Nat} (h : aed K f es clock seen S n) (H : V w0 w (eF it (.mapIter (some b) clock seen clock) • eF b (.map es clock) • F)) : V w0 w (I5 K b it f S n • F) :=
  V.jG (es, clock, seen) (V.deep (V.oG h (H.of_eq (by ac_rfl))))
theorem V.QD (H : V w0 w (I5 K b it f S n • F)) : V w0 w (jM K b f • F) := by
  obtain ⟨es, clock, seen, h, H⟩ := H.aaT
  exact V.Sr h.1 H.right
theorem KJ {t kt et : TypeId} (H : V w0 w (jM K b f • F)) (ht : P.underlying t = some (.map kt et)) (hx : ev L x = some (.map (some b))) :
    zB P L (.range t x) ty w fun v w' => ∃ it n, v = .pointer (some ⟨it, 0, none⟩) ∧ V w0 w' (I5 K b it f [] n • F) := by
  obtain ⟨es, clock, h, H⟩ := H.map
  refine wM (v := .pointer (some ⟨w.heap.size, 0, none⟩)) (w' := w.alloc (.mapIter (some b) clock #[] clock)) ?_ ⟨_, _, rfl, V.Ot ⟨h, ⟨[], by simp, rfl, rfl⟩, rfl⟩ (H.alloc _)⟩
  intro ρ hρ d pos rF g
  simp only [execOp, hρ _ _ hx, Sem.run_bind]
  rw [run_range_map w t kt et b es clock ht H.get.2]
  rfl
def nxV (K : Key α) : Option (α × Value) → Value
  | some (a, u) => .tuple #[.bool true, K.mk a, u]
  | none => .tuple #[.bool false]
def agZ (f : α → Option Value) (S : List α) (n : Nat) (S' : List α) (n' : Nat) : Option (α × Value) → Prop
  | some (a, u) => f a = some u ∧ a ∉ S ∧ n' < n ∧ S' = S ++ [a]
  | none => S' = S ∧ n' = n ∧ ∀ a u, f a = some u → a ∈ S
theorem acP {es : Array MapEntry} {seen : Array Nat} {e : MapEntry} (he : e ∈ (leftOf es seen).toList) : (leftOf es (seen.push e.born)).size < (leftOf es seen).size := by
  unfold leftOf at *
  rw [Array.toList_filter, List.mem_filter] at he
  have e1 : ∀ q : MapEntry → Bool, (es.filter q).size = (es.toList.filter q).length := fun q => by rw [← Array.toList_filter, Array.length_toList]
  rw [e1, e1]
  refine filter_lt _ _ (fun x hx => ?_) e he.2 ?_ es.toList he.1
  · simp only [Bool.not_eq_true', Array.contains_push, Bool.or_eq_false_iff] at hx ⊢
    exact hx.1
  · simp
theorem Ou (H : V w0 w (I5 K b it f S n • F)) (hx : ev L x = some (.pointer (some ⟨it, 0, none⟩))) :
    zB P L (.next x false) ty w fun v w' => ∃ o S' n', v = nxV K o ∧ agZ f S n S' n' o ∧ V w0 w' (I5 K b it f S' n' • F) := by
  obtain ⟨es, clock, seen, ⟨hm, ⟨xs, hxs, hse, hS⟩, hn⟩, H⟩ := H.aaT
  have hr := H.get.2
  have hb := H.swap.get.2
  rcases run_next_at (P := P) w ty it b clock clock seen es clock hr hb hm.1.1 (Nat.le_refl _) with ⟨h0, hrun⟩ | ⟨e, he, w1, hw1, hrun⟩
  · refine wM (v := nxV K none) (w' := w) (fun ρ hρ d pos rF g => ?_) ⟨none, S, n, rfl, ⟨rfl, rfl, fun a u ha => ?_⟩, V.Ot ⟨hm, ⟨xs, hxs, hse, hS⟩, hn⟩ H⟩
    · simp only [execOp, hρ _ _ hx, Sem.run_bind]
      rw [hrun]; rfl
    · obtain ⟨y, hy, hyk, _⟩ := (hm.2.2 a u).1 ha
      have hys : seen.contains y.born = true := by
        cases hc : seen.contains y.born with
        | true => rfl
        | false =>
          have hyl : y ∈ (leftOf es seen).toList := by unfold leftOf; rw [Array.toList_filter, List.mem_filter]; exact ⟨hy, by rw [hc]; rfl⟩
          have := List.length_pos_of_mem hyl
          rw [Array.length_toList] at this
          omega
      have afH : y.born ∈ seen.toList := by simpa using hys
      rw [hse] at afH
      obtain ⟨q, hq, hqb⟩ := List.mem_map.1 afH
      have hqy : q = y := X6 hm.1.2.1 (hxs q hq) hy hqb
      subst hqy
      have : K.mk a ∈ S.map K.mk := by rw [← hS]; exact List.mem_map.2 ⟨q, hq, hyk⟩
      obtain ⟨c, hc, hce⟩ := List.mem_map.1 this
      rw [← K.inj _ _ hce]; exact hc
  · have hel : e ∈ es.toList ∧ seen.contains e.born = false := by
      have := he
      unfold leftOf at this
      rw [Array.toList_filter, List.mem_filter] at this
      exact ⟨this.1, by simpa using this.2⟩
    obtain ⟨a, ha⟩ := K.onto e.key (hm.2.1 e hel.1)
    have hfa : f a = some e.val := (hm.2.2 a e.val).2 ⟨e, hel.1, ha.symm, rfl⟩
    have hns : a ∉ S := fun hs => by
      have : K.mk a ∈ S.map K.mk := List.mem_map.2 ⟨a, hs, rfl⟩
      rw [← hS] at this
      obtain ⟨q, hq, hqk⟩ := List.mem_map.1 this
      have hqe : q = e := hm.same (hxs q hq) hel.1 (hqk.trans ha)
      subst hqe
      have h9 : q.born ∈ seen.toList := by rw [hse]; exact List.mem_map.2 ⟨q, hq, rfl⟩
      have h8 : seen.contains q.born = true := by simpa using h9
      rw [hel.2] at h8; cases h8
    have hval : Val P L (.next x false) ty w (nxV K (some (a, e.val))) (ChangeMaps.setBlock w1 it (.mapIter (some b) clock (seen.push e.born) clock)) := fun ρ hρ d pos rF g => by
      simp only [execOp, hρ _ _ hx, Sem.run_bind]
      rw [hrun]
      simp only [nxV, ha]
      rfl
    have hheap : w1.heap = w.heap := by rcases hw1 with rfl | rfl <;> rfl
    have hr1 : w1.heap[it]? = some (.mapIter (some b) clock seen clock) := by rw [hheap]; exact hr
    refine wM hval ⟨some (a, e.val), S ++ [a], (leftOf es (seen.push e.born)).size, rfl, ⟨hfa, hns, by rw [← hn]; exact acP he, rfl⟩, V.Ot (seen := seen.push e.born) ⟨hm, ⟨xs ++ [e], ?_, ?_, ?_⟩, rfl⟩ (V.setB (w := w1) (o := .mapIter (some b) clock seen clock) ?_ _)⟩
    · intro q hq
      rcases List.mem_append.1 hq with hq | hq
      · exact hxs q hq
      · rw [List.mem_singleton.1 hq]; exact hel.1
    · rw [Array.toList_push, hse, List.map_append]; rfl
    · rw [List.map_append, List.map_append, hS]; simp [ha]
    · rcases hw1 with rfl | rfl
      · exact H
      · exact H.drew
theorem adu {o : Option (α × Value)} (hx : ev L x = some (nxV K o)) : Val P L (.extract x 0) ty w (.bool o.isSome) w := by
  cases o with
  | none => exact Bd hx rfl
  | some p => obtain ⟨a, u⟩ := p; exact Bd hx rfl
theorem X7 {u : Value} (H : V w0 w (I5 K b it f (S ++ [a]) n • F)) (hf : f a = some u) (hx : ev L x = some (.pointer (some ⟨it, 0, none⟩))) : Val P L (.entry x) ty w (.tuple #[K.mk a, u]) w := by
  obtain ⟨es, clock, seen, ⟨hm, ⟨xs, hxs, hse, hS⟩, hn⟩, H⟩ := H.aaT
  intro ρ hρ d pos rF g
  have hne : xs ≠ [] := by
    rintro rfl
    have := congrArg List.length hS
    simp at this
  obtain ⟨ys, e, rfl⟩ : ∃ ys e, xs = ys ++ [e] := ⟨xs.dropLast, xs.getLast hne, (List.dropLast_concat_getLast hne).symm⟩
  have he : e ∈ es.toList := hxs e (by simp)
  have hk : e.key = K.mk a := by
    rw [List.map_append, List.map_append] at hS
    have := List.append_inj_right' hS rfl
    simpa using this
  have hv : e.val = u := by
    have h9 := (hm.2.2 a e.val).2 ⟨e, he, hk, rfl⟩
    rw [hf] at h9; cases h9; rfl
  have hsp : seen = (ys.map (·.born)).toArray.push e.born := by
    apply Array.ext'
    rw [hse]; simp
  have hr := H.get.2
  rw [hsp] at hr
  simp only [execOp, hρ _ _ hx, Sem.run_bind]
  rw [run_entry_at w it b clock _ es clock e hr H.swap.get.2 he hm.1.2.1, hk, hv]
  rfl
end
end Go.Proofs.YtgofgnlkpeghcaaGreatDoor
end
