import Derived.Test.YtpdeedplgmbopaaGreatDoorZ4
import Derived.Test.YtpdeedplgmbopaaGreatDoorZ8
import Derived.Test.YtpdeedplgmbopaaGreatDoorZ7
set_option linter.unusedSimpArgs false
set_option linter.unusedVariables false
/- Texts of mine, joined, their names in short: UList4 UList5 UList6 UList7 Grp0 Hist EdM. -/
section
namespace Go.Proofs.YtpdeedplgmbopaaGreatDoor
open Go.RowKit
open _root_.Go.Proofs.Tryz
def vI (G : List (List jL)) (N : List jL) : Int := if G.length + N.length = 0 then 6 else 0
def ZX (G : List (List jL)) (N : List jL) : List (List jL) := if G.length + N.length = 0 then G else (qL G N).dropLast
def ZY (G : List (List jL)) (N : List jL) : List jL := if G.length + N.length = 0 then N else []
def Z4 (G : List (List jL)) (N : List jL) (op : Int) : Int := if G.length + N.length = 0 then op else 0
def Z5 (G : List (List jL)) (N : List jL) : List jL := if G.length + N.length = 0 then [] else ((qL G N).getLastD []).reverse.map Bz
theorem SQ {G : List (List jL)} {g N : List jL} : iK (G ++ [g]) N = iK G N + g.length := by simp [iK]; omega
section
variable {w0 w : World} {F : HP} {p : Nat} {G : List (List jL)} {N : List jL} {op : Int} {gv nv v : Value} {gs : List (Value × List gX)} {now es : List gX} {a : Int} {d z : Value} {dl il : List Int}
theorem YE (h : ¬ G.length + N.length = 0) : qL G N ≠ [] := by
  unfold qL; split
  · rename_i hN; rintro rfl; subst hN; exact h rfl
  · simp
theorem V.YF (H : V w0 w (kC p G [] op • F)) (hG : G ≠ []) : ∃ gv nv hs gl BA, G = hs.map (fun g => g.2.map gX.says) ++ [BA.map gX.says] ∧ UOk G [] op ∧ G.length = hs.length + 1 ∧ hs.length ≤ 16384 ∧ BA.length ≤ 16384 ∧ (∀ k, k < BA.length → EB (BA.getD k default).says) ∧
    V w0 w (gJ p (.cells #[gv, nv, .int .i64 op, .int .i64 (iK G [] : Nat), .bool true] 235 (0, 0)) • Row 80 1 gv (hs.length + 1) (hs.map (·.1) ++ [gl]) • tN hs • Jb gl BA • QT nv [] • F) := by
  obtain ⟨gv, nv, gs, now, h1, h2, h3, h4, h5, h6, H⟩ := H.BM
  obtain rfl : now = [] := List.eq_nil_of_length_eq_zero (by simpa using h5)
  rcases List.eq_nil_or_concat gs with rfl | ⟨hs, ⟨gl, BA⟩, rfl⟩
  · exact absurd h2.symm hG
  · have hG2 : G = hs.map (fun g => g.2.map gX.says) ++ [BA.map gX.says] := by rw [← h2]; simp
    have hle : BA.length ≤ 16384 := by
      have := h1.2.1
      rw [hG2, SQ] at this
      simp at this
      omega
    refine ⟨gv, nv, hs, gl, BA, hG2, h1, ?_, ?_, hle, fun k hk => ?_, ?_⟩
    · rw [hG2]; simp
    · rw [hG2] at h6; simp at h6; omega
    · refine h1.2.2.2.2.1 (BA.map gX.says) (by rw [hG2]; simp) _ ?_
      rw [List.getD_eq_getElem?_getD, List.getElem?_eq_getElem hk]
      exact List.mem_map_of_mem (List.getElem_mem hk)
    · rw [List.concat_eq_append, List.length_append, List.map_append] at H
      have H1 := (H.f3.VQ (k := hs.length) (by simp)).swap
      rw [show (hs ++ [(gl, BA)]).getD hs.length default = (gl, BA) from by simp [List.getD_eq_getElem?_getD]] at H1
      have H2 := H1.VR hs.length
      rw [List.take_left' rfl] at H2
      exact H2.of_eq (by unfold QT; ac_rfl)
theorem EH (H : V w0 w (kC p G N op • F)) : jf prog 136 #[.pointer (some ⟨p, 0, none⟩)] w fun v w' => ∃ u, ∃ fs : List gX, v = .tuple #[u, .int .i64 (vI G N)] ∧ fs.map gX.says = Z5 G N ∧
  V w0 w' (Row 189 3 u fs.length (fs.flatMap gX.enc) • nD fs • kC p (ZX G N) (ZY G N) (Z4 G N op) • F) := by
 unfold vI Z5 ZX ZY Z4
 refine jE func136 ntmps136 ?_
 refine jg (gW O (tX O (bI O (dX O func158 (nJ H) ?_))))
 rintro _ _ ⟨rfl, rfl⟩
 refine iR (oL (gy (aI (aI ?_))))
 obtain ⟨FN, Cc, oh, pJ, oq, y8, yg, Ky, Kz, OZ, uI⟩ := (H).BM
 have ED := uI.drew
 have jh := V.kp (ED.f5.f5.f5.f5.f5)
 refine nG [4, 10] jh O (fD 0 O jh O (iG 1 O jh O (dJ 2 O jh 0 dw O fC O (dJ 3 O jh 0 dD O iZ O (fM 4 O jh (fun W hW => fQ cO O ((Kp.h hW)).get.2 O) (dS 5 O jh (fun _ => ku ((ED.f2).aO) cO O) (fD 6 O jh O (iG 7 O jh O (dJ 8 O jh 0 dw O fC O (dJ 9 O jh 1 dD O dA O (fM 10 O jh (fun W hW => fQ aZ O ((Kp.h hW)).get.2 O) (dS 11 O jh (fun _ => ku ((ED.f4).aO) aZ O) (dS 12 O jh (fun _ => fH O O (by omega)) (dS 13 O jh (fun _ => fB O O) (lJ (aU (bg O (fun h1 => ?_) (fun h1 => ?_))))))))))))))))))
 ·(try simp only [Z] at h1)
  have hGN : G.length + N.length = 0 := by omega
  have Uu := ED.f5.f5.f5.f5.f5
  have Rj := V.qX oq y8 yg rfl Uu
  refine jg (gW O (fP O (aC (MO results136 O O ?_))))
  simp only [if_pos hGN]
  exact ⟨_, [], O, O, ((Rj).xB none).edL⟩
 ·(try simp only [Z] at h1)
  have hGN : ¬ G.length + N.length = 0 := by omega
  have Ho7 := ED.f5.f5.f5.f5.f5
  have Hc8 := V.qX oq y8 yg rfl Ho7
  refine gy (bI O (dX O func177 (DJ Hc8) ?_))
  rintro _ w9 H9
  refine rW ?_
  obtain ⟨gv, nv, hs, gl, BA, hG, hok, hl1, hl2, hl3, hEB, HU⟩ := (H9).YF (YE hGN)
  have htot := hok.2.1
  refine aF (mX O O (bM 0 dw O fC O (bM 0 dD O iZ O (eH cO O (HU).get.2 O (aV (ku ((HU.f2).aO) cO O) (aV (jJ O O (by omega)) (fO O (bI O (dV O (bM 0 dw O fC O (bM 0 dD O iZ O (eH cO O (HU).get.2 O (bW O ?_)))))))))))))
  obtain ⟨bgv, ogv, cgv, egv⟩ := Rd.qN ((HU.f2).aO) (by omega)
  cases egv
  refine aV (dI cO dA O O (by omega)) ?_
  refine aV (dW (bV aZ O) O (by first | exact Rd.lN ((HU.f2).aO) (by omega) | exact Rd.uP ((HU.f2).aO) (by omega) | exact Rd.wO ((HU.f2).aO) (by omega))) ?_
  rw [show (hs.map (·.1) ++ [gl]).getD ((((hs.length + 1 : Nat)) : Int) - 1).toNat undef = gl from by rw [show ((((hs.length + 1 : Nat)) : Int) - 1).toNat = hs.length from by omega]; simp [List.getD_eq_getElem?_getD]]
  refine fO O (bI O (mX O O (bM 0 dw O fC O (bM 0 dD O iZ O (eH cO O (HU).get.2 O (bW O (aV (pF ((HU.f2).aO) cO dA O O O (by omega)) ?_)))))))
  refine dV O (bM 0 dw O fC O (bM 0 dD O iZ O (aQ (ig 0 (l' := [_, _, _, _, _]) HU iZ O O (by first | rfl | exact Rd.one (Rd.ai2 ((HU.f2).aO) (by omega))) O O) ?_)))
  rintro _ w10 pG
  refine uS O (dV O (bM 0 dw O fC O (bM 3 dD O aj O (eH aA O (pG).get.2 O (bW O (aV (ku ((pG.f4).Af) aZ O) (aV (jJ O O (by omega)) (dV O (bM 0 dw O fC O (bM 3 dD O aj O (aQ (st5 3 pG aj) ?_)))))))))))
  rintro _ FK ru
  refine uS O (dX O func178 (Ee ru.f4 hEB hl3) ?_)
  rintro u12 w12 ⟨acN, agE, wQ⟩
  refine gW O (fP O (MO results136 O O ?_))
  simp only [if_neg hGN]
  have hdl : (qL G N).dropLast = hs.map (fun g => g.2.map gX.says) := by rw [hG]; simp
  have hlast : (qL G N).getLastD [] = BA.map gX.says := by rw [hG]; simp
  have hX := (wQ.f3.right.f6.f6.f5.f5.f5.f6).acm (h := hs.length) (by omega)
  rw [hdl, hlast]
  rw [Nat.mul_one, List.take_left' (by simp), show (((hs.length + 1 : Nat) : Int) - 1).toNat = hs.length from by omega, show Int.toNat 0 = 0 from rfl] at hX
  have hT : iK (qL G N) [] = iK (hs.map (fun g => g.2.map gX.says)) [] + BA.length := by rw [hG, SQ, List.length_map]
  have hok2 : UOk (hs.map (fun g => g.2.map gX.says)) [] 0 := ⟨fun g hg => hok.1 g (by rw [hG]; exact List.mem_append_left _ hg), by omega, by decide, by decide, fun g hg => hok.2.2.2.2.1 g (by rw [hG]; exact List.mem_append_left _ hg), by simp⟩
  refine ⟨_, _, O, (by assumption), ?_⟩
  have hU := V.AV (gv := wV 1 0 hs.length (.slice (some ⟨bgv, ogv, none⟩) (hs.length + 1) cgv)) (nv := nv) (gs := hs) (now := []) (ed := (iK (qL G N) [] : Nat) - (BA.length : Int)) (F := Row 189 3 u12 acN.length (acN.flatMap gX.enc) • nD acN • F) hok2 rfl rfl (by omega) (hX.of_eq (by unfold JI; ac_rfl))
  exact hU.of_eq (by ac_rfl)
end
def BD (op : Int) : Int := if op = 0 then 1 else 0
def ahz (G : List (List jL)) (N : List jL) (op : Int) : List (List jL) := if op = 1 then qL G N else G
def ahA (N : List jL) (op : Int) : List jL := if op = 1 then [] else N
def afx (op : Int) : Int := if op = 0 then 0 else op - 1
theorem abb {es : List gX} {k : Nat} (hk : k < es.length) : (es.take (k + 1)).map gX.says = (es.take k).map gX.says ++ [(es.getD k default).says] := by
  rw [List.take_succ_eq_append_getElem hk, List.map_append, List.getD_eq_getElem?_getD, List.getElem?_eq_getElem hk]
  rfl
section
variable {w0 w : World} {F : HP} {p : Nat} {G : List (List jL)} {N : List jL} {op : Int} {gv nv v : Value} {gs : List (Value × List gX)} {now es : List gX} {a : Int} {d z : Value} {dl il : List Int}
theorem FT (H : V w0 w (kC p G N op • F)) : jf prog 139 #[.pointer (some ⟨p, 0, none⟩)] w fun v w' => v = .int .i64 (BD op) ∧ V w0 w' (kC p (ahz G N op) (ahA N op) (afx op) • F) := by
 unfold BD ahz ahA afx
 refine jE func139 ntmps139 ?_
 refine kH O (aI (bI O (dX O func158 (nJ H) ?_)))
 rintro _ _ ⟨rfl, rfl⟩
 refine iR (oL (gy (aI (aI ?_))))
 obtain ⟨FN, Cc, oh, pJ, oq, y8, yg, Ky, Kz, OZ, uI⟩ := (H).BM
 have hop := oq.2.2.1
 have hop2 := oq.2.2.2.1
 refine aF (mX O O (bM 0 dw O fC O (bM 2 dD O aj O (eH aA O (uI).get.2 O (aV (fB O O) (iW O (fun h1 => ?_) (fun h1 => ?_)))))))
 ·(try simp only [Z] at h1)
  have h0 : op = 0 := by omega
  refine jS O (aC (dL results139 O ?_))
  have Uu := uI.f5.f5.f5.f5.f5
  have Rj := V.qX oq y8 yg rfl Uu
  subst h0
  exact ⟨O, Rj⟩
 ·(try simp only [Z] at h1)
  have h0 : ¬ op = 0 := by omega
  refine gy (aI (bI O (dV O (bM 0 dw O fC O (bM 2 dD O aj O (eH aA O (uI).get.2 O (aV (jJ O O (by omega)) (dV O (bM 0 dw O fC O (bM 2 dD O aj O (aQ (st5 2 uI aj) ?_)))))))))))
  rintro _ w6 H6
  refine uS O (dV O (bM 0 dw O fC O (bM 2 dD O aj O (eH aA O (H6).get.2 O (aV (fB O O) (iW O (fun h2 => ?_) (fun h2 => ?_)))))))
  ·(try simp only [Z] at h2)
   have h1 : op = 1 := by omega
   have Ho7 := H6.f5.f5.f5.f5.f5
   have Hc8 := V.qX (op := op - 1) ⟨oq.1, oq.2.1, by omega, by omega, oq.2.2.2.2⟩ y8 yg rfl Ho7
   refine aF (bW O (dX O func177 (DJ Hc8) ?_))
   rintro _ w9 H9
   refine iR (jS O (dL results139 O ?_))
   subst h1
   exact ⟨O, H9⟩
  ·(try simp only [Z] at h2)
   have h1 : ¬ op = 1 := by omega
   refine gy (jS O (dL results139 O ?_))
   rw [if_neg h0, if_neg h1, if_neg h1, if_neg h0]
   exact ⟨O, V.qX ⟨oq.1, oq.2.1, by omega, by omega, oq.2.2.2.2⟩ y8 yg O H6.f5.f5.f5.f5.f5⟩
theorem O9 (H : V w0 w F) (hv : Ua w0 F 3 v es.length (es.flatMap gX.enc)) (he : ∀ k, k < es.length → jO w0 F .i32 (es.getD k default).d (es.getD k default).dl ∧ jO w0 F .i32 (es.getD k default).i (es.getD k default).il)
  (hB : ∀ k, k < es.length → EB (es.getD k default).says) (hL : es.length ≤ 16384) :
  jf prog 173 #[v] w fun v' w' => ∃ fs : List gX, fs.map gX.says = es.map gX.says ∧ V w0 w' (Row 189 3 v' fs.length (fs.flatMap gX.enc) • nD fs • F) := by
 refine jE func173 ntmps173 ?_
 refine kH O (kH O (aI (bI O (aV (ku (hv _ (H)) aZ O) (bW O (iR (bf ?_)))))))
 refine iy [(6, _), (7, _)] (fun (⟨k, u⟩ : Nat × Value) => [(3, u), (8, .int .i64 (k : Int))]) (fun (⟨k, u⟩ : Nat × Value) W => k ≤ es.length ∧ ∃ fs : List gX, fs.map gX.says = (es.take k).map gX.says ∧ V w0 W (Row 189 3 u fs.length (fs.flatMap gX.enc) • nD fs • F)) (fun (⟨k, u⟩ : Nat × Value) => es.length - k) ((0, .slice none 0 0)) sG sG ⟨by omega, [], O, (H.xB none).edL⟩ ?_
 rintro ⟨k, u⟩ w1 ⟨hk, fs, hfs, HL⟩
 dsimp only [List.cons_append, List.nil_append]
 refine jg (aV (gG O O) (rW (bg O (fun h1 => ?_) (fun h1 => ?_))))
 ·(try simp only [Z] at h1)
  refine gy (aI (bf (jg ?_)))
  obtain ⟨bv, ov, cv, ev⟩ := Rd.qN (hv _ (HL.right.right)) (by omega)
  cases ev
  refine aV (dI aZ dB O O (by omega)) (aV (pI (ys := [_, _, _]) (hv _ (HL.right.right)) (by omega) bn O dB O (rY gX.AB (by omega) default) O) ?_)
  have hkl : k < es.length := by omega
  obtain ⟨f1, f2⟩ := he k hkl
  obtain ⟨hb1, hb2⟩ := hB k hkl
  have hb1 : (es.getD k default).dl.length ≤ 35184372087808 := hb1
  have hb2 : (es.getD k default).il.length ≤ 35184372087808 := hb2
  have hfl : fs.length = k := by have h9 := congrArg List.length hfs; simp at h9; omega
  refine kV (iO (l := [_, _, _]) HL fJ O) ?_
  rintro _ w2 ⟨b2, rfl, H2⟩
  refine aQ (dM 0 (l' := [_, _, _]) (us := [_, _, _]) H2 dB O O O (aJ (bG (by first | rfl | exact Rd.one (f1 _ (H2.right.right.right))) (bG (by first | rfl | exact Rd.one (f2 _ (H2.right.right.right))) dn))) O O) ?_
  rintro _ w3 H3
  refine iR (aF (bW O (aV (dH bn O dB O O (H3).get.2) (dX O func179 (Cb H3 (fun W HW => f1 _ (HW.right.right.right)) (fun W HW => f2 _ (HW.right.right.right)) (by omega) (by omega)) ?_))))
  rintro _ w4 ⟨d4, s4, rfl, H4⟩
  refine kV (yU H4 aZ dB fJ O O O (by decide) (by decide)) ?_
  rintro l5 w5 H5
  refine kV (jy H5.f5 aZ DF O O O ((H5).aO) (aJ (bG (by first | rfl | exact Rd.one ((H5.f2).aO)) (bG (by first | rfl | exact Rd.one ((H5.f3).aO)) dn))) (by omega) (by omega)) ?_
  rintro l6 w6 H6
  have Hd7 := H6.f2.right
  refine gW O (bT (aH (aU (aF (aV (fH O O (by omega)) (bW O (bT ?_)))))))
  refine dN ((k + 1, l6)) ?_ ?_ ?_ ?_
  ·exact sG
  ·exact sG
  ·(try dsimp only)
   first | done | exact ⟨by omega, _, by rw [List.map_append, hfs, abb (by omega)]; rfl, (V.E5 (Hd7.f4.right.f4.f2.f4.f4).oC.swap.oC.swap.f3).edL⟩
  ·(try dsimp only); omega
 ·(try simp only [Z] at h1)
  refine dR (aP (aP (bH (aU (bI O (fP O (dL results173 O ?_)))))))
  rw [List.take_of_length_le (by omega)] at hfs
  exact ⟨_, hfs, HL.f2.f2⟩
theorem V.oD {es : List gX} (H : V w0 w (nD es • F)) {k : Nat} (hk : k < es.length) : gB w .i32 (es.getD k default).d (es.getD k default).dl ∧ gB w .i32 (es.getD k default).i (es.getD k default).il := let ⟨I, h, hI⟩ := H.yL; ⟨(h k hk).1.rd hI, (h k hk).2.rd hI⟩
theorem Hr (H : V w0 w (Row 189 3 v es.length (es.flatMap gX.enc) • nD es • F)) (hB : ∀ k, k < es.length → EB (es.getD k default).says) (hL : es.length ≤ 16384) :
    jf prog 173 #[v] w fun v' w' => ∃ fs : List gX, fs.map gX.says = es.map gX.says ∧ V w0 w' (Row 189 3 v' fs.length (fs.flatMap gX.enc) • nD fs • Row 189 3 v es.length (es.flatMap gX.enc) • nD es • F) :=
  O9 H (fun W HW => HW.aO) (fun k hk => ⟨fun W HW => (HW.right.oD hk).1, fun W HW => (HW.right.oD hk).2⟩) hB hL
theorem EI (H : V w0 w (Jb v es • F)) (hB : ∀ k, k < es.length → EB (es.getD k default).says) (hL : es.length ≤ 16384) :
    jf prog 173 #[v] w fun v' w' => ∃ fs : List gX, fs.map gX.says = es.map gX.says ∧ V w0 w' (Row 189 3 v' fs.length (fs.flatMap gX.enc) • nD fs • Jb v es • F) :=
  O9 H (fun W HW => HW.Af) (fun k hk => ⟨fun W HW => HW.ai6 hk, fun W HW => HW.ai7 hk⟩) hB hL
end
def ahB (G : List (List jL)) (N : List jL) : List jL := (qL G N).flatten.reverse.map Bz
theorem afy (G : List (List jL)) : (G.map List.length).sum = G.flatten.length := by
  induction G with
  | nil => rfl
  | cons g G ih => simp only [List.map_cons, List.sum_cons, List.flatten_cons, List.length_append, ih]
theorem KC {G : List (List jL)} {k : Nat} (hk : k < G.length) : (G.take (k + 1)).flatten = (G.take k).flatten ++ G.getD k [] := by
  rw [List.take_succ_eq_append_getElem hk, List.flatten_append, List.getD_eq_getElem?_getD, List.getElem?_eq_getElem hk]
  simp
theorem YG (G : List (List jL)) (k : Nat) : (G.take k).flatten.length ≤ G.flatten.length := by
  conv => rhs; rw [← List.take_append_drop k G, List.flatten_append, List.length_append]
  omega
section
variable {w0 w : World} {F : HP} {p : Nat} {G : List (List jL)} {N : List jL} {op : Int} {gv nv v u : Value} {gs : List (Value × List gX)} {now es fs : List gX} {a : Int} {d z : Value} {dl il : List Int}
theorem Ht (H : V w0 w (kC p G N op • F)) : jf prog 204 #[.pointer (some ⟨p, 0, none⟩)] w fun _ w' => V w0 w' (kC p [] [] 0 • F) := by
 refine jE func204 ntmps204 ?_
 refine bI O (dX O func158 (nJ H) ?_)
 rintro _ _ ⟨rfl, rfl⟩
 refine aV (jR O) (iR (wcE O (fun h1 => ?_)))
 (try simp only [Z] at h1)
 obtain ⟨FN, Cc, oh, pJ, oq, y8, yg, Ky, Kz, OZ, uI⟩ := (H).BM
 refine aF (bW O (aV (qx (pl := #[(0, 4), (4, 1)]) (#[_, _, _, _, _]) dw zeroValue235 (fun w => by kernel_rfl) O (O)) (dV O (aQ (dM 0 (l' := [_, _, _, _, _]) (us := [_, _, _, _, _]) uI sizeOf235 O O O (aJ (aJ (aJ (aJ (aJ dn))))) O O) ?_))))
 rintro _ w3 H3
 refine bT (oU (.inr O) results204 ?_)
 refine V.AV (gv := .slice none 0 0) (nv := .slice none 0 0) (gs := []) (now := []) ⟨by simp, by decide, by decide, by decide, by simp, by simp⟩ O O O ?_
 exact (((H3.f2.right.f2.right.f2.right.f2.right).xB none).Kw none).of_eq (by ac_rfl)
theorem V.VZ (H : V w0 w (Jb v es • F)) : ∀ x ∈ es.flatMap gX.enc, x.oneCell' = true :=
  V.Hl (es := es) (w0 := w0) (w := w) (F := F) (H.JD (vG (fun I h => h.2) F))
theorem V.KD (H : V w0 w (tN gs • F)) {k : Nat} {gl : Value} {BA : List gX} (hk : k < gs.length) (hg : gs.getD k default = (gl, BA)) : V w0 w (Jb gl BA • tN gs • F) := by
  have := H.VQ hk
  rwa [hg] at this
theorem V.acO (H : V w0 w (Jb u fs • nD es • F)) : V w0 w (nD (es ++ fs) • F) := H.JD (vH (fun I h g => g.app h.2) F)
theorem NR (H : V w0 w (kC p G N op • F)) : jf prog 208 #[.pointer (some ⟨p, 0, none⟩)] w fun v w' => ∃ fs : List gX, fs.map gX.says = ahB G N ∧
  V w0 w' (Row 189 3 v fs.length (fs.flatMap gX.enc) • nD fs • kC p [] [] 0 • F) := by
 unfold ahB
 refine jE func208 ntmps208 ?_
 refine kH O (aI (bI O (dX O func158 (nJ H) ?_)))
 rintro _ _ ⟨rfl, rfl⟩
 refine iR (oL (gy (bI O (dX O func177 (DJ H) ?_))))
 rintro _ w2 H2
 refine iR (kH O (aI (aI ?_)))
 generalize hC : qL G N = C at *
 obtain ⟨FN, Cc, oh, pJ, oq, y8, yg, Ky, Kz, OZ, uI⟩ := (H2).BM
 have htot := oq.2.1
 have hfl : C.flatten.length ≤ 16384 := by unfold iK at htot; rw [afy] at htot; simp only [List.length_nil, Nat.add_zero] at htot; exact htot
 refine aF (mX O O (bM 0 dw O fC O (bM 0 dD O iZ O (eH cO O (uI).get.2 O (aV (ku ((uI.f2).aO) cO O) (bW O (iR (bf ?_))))))))
 obtain ⟨V3, V4, acP, -⟩ := ((uI.f2).aO).form
 subst acP
 refine iy [(0, _), (14, _), (15, _)] (fun (⟨k, u⟩ : Nat × Value) => [(3, u), (16, .int .i64 (k : Int))]) (fun (⟨k, u⟩ : Nat × Value) W => k ≤ oh.length ∧ ∃ fs : List gX, fs.map gX.says = (C.take k).flatten ∧ V w0 W (Row 189 3 u fs.length (fs.flatMap gX.enc) • nD fs • gJ p (.cells #[(.slice V3 (oh.length) V4), Cc, .int .i64 0, .int .i64 (iK C [] : Nat), .bool true] 235 (0, 0)) • Row 80 1 (.slice V3 (oh.length) V4) oh.length (oh.map (·.1)) • tN oh • Row 189 3 Cc pJ.length (pJ.flatMap gX.enc) • nD pJ • F)) (fun (⟨k, u⟩ : Nat × Value) => oh.length - k) ((0, .slice none 0 0)) wW sG ⟨by omega, [], O, ((uI.f5.f5.f5.f5.f5).xB none).edL⟩ ?_
 rintro ⟨k, u⟩ w5 ⟨hk, fs, hfs, HL⟩
 dsimp only [List.cons_append, List.nil_append]
 refine jg (aV (gG O O) (rW (bg O (fun h1 => ?_) (fun h1 => ?_))))
 ·(try simp only [Z] at h1)
  refine gy (aI (bf (jg ?_)))
  obtain ⟨ajd, aje, rfl⟩ := Rd.pos ((HL.f4).aO) (by omega)
  refine aV (dI cO dA O O (by omega)) ?_
  refine aV (dW (bV aZ O) O (by first | exact Rd.lN ((HL.f4).aO) (by omega) | exact Rd.uP ((HL.f4).aO) (by omega) | exact Rd.wO ((HL.f4).aO) (by omega))) ?_
  have hkl : k < oh.length := by omega
  rw [show (oh.map (·.1)).getD k undef = (oh.getD k default).1 from by simp [List.getD_eq_getElem?_getD, hkl]]
  obtain ⟨gl, BA, hg⟩ : ∃ gl BA, oh.getD k default = (gl, BA) := ⟨_, _, rfl⟩
  rw [hg]
  have UA := HL.f5
  have QU := UA.KD hkl hg
  have ajf := (QU).VZ
  have hge : C.getD k [] = BA.map gX.says := by
   rw [← y8]
   have h9 : (oh.map (fun g => g.2.map gX.says)).getD k [] = (oh.getD k default).2.map gX.says := by simp [List.getD_eq_getElem?_getD, hkl]
   rw [h9, hg]
  have hft := congrArg List.length (KC (G := C) (k := k) (by omega))
  have hfe := YG C (k + 1)
  have hfk := congrArg List.length hfs
  rw [List.length_append, hge, List.length_map] at hft
  rw [List.length_map] at hfk
  refine fO O (aF (jU O O (kV (jy QU.f3 aZ DF O O O ((QU).Af) (by assumption) (by omega) (by omega)) ?_)))
  rintro l8 w8 H8
  refine gW O (bT (aH (aU (aF (aV (fH O O (by omega)) (bW O (bT ?_)))))))
  refine dN ((k + 1, l8)) ?_ ?_ ?_ ?_
  ·exact sG
  ·exact wW
  ·(try dsimp only)
   first | done | exact ⟨by omega, fs ++ BA, by rw [List.map_append, hfs, KC (by omega), hge], by rw [List.length_append, List.flatMap_append]; exact (H8.f8.f8.f5.f8.f8.f6.f8.f8).acO.swap⟩
  ·(try dsimp only); omega
 ·(try simp only [Z] at h1)
  refine dR (aP (aP (bH (aU (aI ?_)))))
  have UC := HL.f7.f7.f7.f7.f7
  have UD := V.qX oq y8 yg rfl UC
  refine aF (bW O (dX O func204 (Ht UD) ?_))
  rintro _ w12 wQ
  refine rW ?_
  rw [List.take_of_length_le (by omega)] at hfs
  have hfk := congrArg List.length hfs
  rw [List.length_map] at hfk
  have hLs : fs.length ≤ 16384 := by omega
  have akr : ∀ k, k < fs.length → EB (fs.getD k default).says := fun k hk => by
   have hm : (fs.getD k default).says ∈ fs.map gX.says := List.mem_map_of_mem (Ad hk)
   rw [hfs] at hm
   obtain ⟨g, hg, hx⟩ := List.mem_flatten.1 hm
   exact oq.2.2.2.2.1 g hg _ hx
  have YH := wQ.f3.f3
  have YI := V.uY (es := fs) YH.deep
  refine aF (bW O (dX O func178 (Ee YI akr hLs) ?_))
  rintro u15 OM ⟨aks, acQ, zV⟩
  rw [hfs] at acQ
  have hres := acQ
  refine fP O (dL results208 O ?_)
  exact ⟨_, hres, zV.f3.right.f3.f3.f3⟩
end
theorem abd {G : List (List jL)} {k : Nat} (hk : k < G.length) : G.take (k + 1) = G.take k ++ [G.getD k []] := by
  rw [List.take_succ_eq_append_getElem hk, List.getD_eq_getElem?_getD, List.getElem?_eq_getElem hk]
  rfl
theorem Ob {G : List (List jL)} {g : List jL} (h : g ∈ G) : g.length ≤ (G.map List.length).sum := by
  induction G with
  | nil => cases h
  | cons x G ih =>
    rw [List.map_cons, List.sum_cons]
    rcases List.mem_cons.1 h with rfl | h
    · omega
    · have := ih h; omega
theorem V5 {es : List gX} {l : List jL} (h : es.map gX.says = l) (hl : ∀ e ∈ l, EB e) : ∀ k, k < es.length → EB (es.getD k default).says := fun k hk =>
  hl _ (by rw [← h]; exact List.mem_map_of_mem (Ad hk))
section
variable {w0 w : World} {F : HP} {p : Nat} {G : List (List jL)} {N : List jL} {op : Int}
theorem Pe (H : V w0 w (kC p G N op • F)) : jf prog 130 #[.pointer (some ⟨p, 0, none⟩)] w fun v w' => ∃ q, v = .pointer (some ⟨q, 0, none⟩) ∧ V w0 w' (kC q G N op • kC p G N op • F) := by
 refine jE func130 ntmps130 ?_
 refine kH O (aI (bI O (dX O func158 (nJ H) ?_)))
 rintro _ _ ⟨rfl, rfl⟩
 refine iR (oL (gy (aI ?_)))
 obtain ⟨FN, Cc, oh, pJ, oq, y8, yg, Ky, Kz, OZ, uI⟩ := (H).BM
 have hLn : pJ.length ≤ 16384 := by omega
 have hBn := V5 yg oq.2.2.2.2.2
 refine aF (mX O O (aV (dH dw O sizeOf235 O O (uI).get.2) (kV (iO (l := [_, _, _, _, _]) uI zeroValue235 O) ?_)))
 rintro _ w3 ⟨b3, rfl, H3⟩
 refine aQ (dM 0 (l' := [_, _, _, _, _]) (us := [_, _, _, _, _]) H3 sizeOf235 O O O (bG (by first | rfl | exact Rd.one ((H3.f3).aO)) (bG (by first | rfl | exact Rd.one ((H3.f5).aO)) (aJ (aJ (aJ dn))))) O O) ?_
 rintro _ w4 H4
 refine uS O (dV O (bM 0 dw O fC O (bM 1 dD O dA O (eH aZ O (H4.f2).get.2 O (dX O func173 (Hr H4.f6.f6 hBn hLn) ?_)))))
 rintro u5 w5 ⟨fs5, ahC, H5⟩
 obtain ⟨es1, rfl⟩ : ∃ q, q = fs5 := ⟨_, rfl⟩
 have hes1 := ahC
 refine bM 0 dw O fC O (bM 0 dD O iZ O (aQ (st5 0 H5.f5 iZ) ?_))
 rintro _ w6 H6
 refine bM 0 dw O fC O (bM 1 dD O dA O (aQ (ig 1 (l' := [_, _, _, _, _]) H6 dA O O (by first | rfl | exact Rd.one ((H6.f2).aO)) O O) ?_))
 rintro _ w7 H7
 refine rW (bI O (dV O (bM 0 dw O fC O (bM 0 dD O iZ O (eH cO O (H7.f6).get.2 O (aV (ku ((H7.f7).aO) cO O) (bW O (iR (bf ?_)))))))))
 obtain ⟨V3, V4, acP, -⟩ := ((H7.f7).aO).form
 subst acP
 refine iy [(3, _), (25, _), (26, _)] (fun (k : Nat) => [(27, .int .i64 (k : Int))]) (fun (k : Nat) W => k ≤ oh.length ∧ ∃ gu, ∃ hs : List (Value × List gX), hs.map (fun g => g.2.map gX.says) = G.take k ∧ V w0 W (gJ b3 (.cells #[gu, u5, .int .i64 op, .int .i64 (iK G N : Nat), .bool true] 235 (0, 0)) • Row 80 1 gu hs.length (hs.map (·.1)) • tN hs • Row 189 3 u5 es1.length (es1.flatMap gX.enc) • nD es1 • gJ p (.cells #[(.slice V3 (oh.length) V4), Cc, .int .i64 op, .int .i64 (iK G N : Nat), .bool true] 235 (0, 0)) • Row 80 1 (.slice V3 (oh.length) V4) oh.length (oh.map (·.1)) • tN oh • Row 189 3 Cc pJ.length (pJ.flatMap gX.enc) • nD pJ • F)) (fun (k : Nat) => oh.length - k) (0) wW lH ⟨by omega, _, [], O, ((H7.f5.f5.f8.f8.f8.f6.f8.f8).Kw none).afv.f5⟩ ?_
 rintro k w9 ⟨hk, gu, hs, hhs, HL⟩
 dsimp only [List.cons_append, List.nil_append]
 refine jg (aV (gG O O) (rW (bg O (fun h1 => ?_) (fun h1 => ?_))))
 ·(try simp only [Z] at h1)
  refine gy (aI (bf (jg ?_)))
  obtain ⟨ajd, aje, rfl⟩ := Rd.pos ((HL.f7).aO) (by omega)
  refine aV (dI cO dA O O (by omega)) ?_
  refine aV (dW (bV aZ O) O (by first | exact Rd.lN ((HL.f7).aO) (by omega) | exact Rd.uP ((HL.f7).aO) (by omega) | exact Rd.wO ((HL.f7).aO) (by omega))) ?_
  have hkl : k < oh.length := by omega
  rw [show (oh.map (·.1)).getD k undef = (oh.getD k default).1 from by simp [List.getD_eq_getElem?_getD, hkl]]
  obtain ⟨gl, BA, hg⟩ : ∃ gl BA, oh.getD k default = (gl, BA) := ⟨_, _, rfl⟩
  rw [hg]
  have UC := HL.f8
  have UD := UC.KD hkl hg
  have hge : BA.map gX.says = G.getD k [] := by
   rw [← y8]
   have h9 : (oh.map (fun g => g.2.map gX.says)).getD k [] = (oh.getD k default).2.map gX.says := by simp [List.getD_eq_getElem?_getD, hkl]
   rw [h9, hg]
  have hgm : G.getD k [] ∈ G := Ad (by omega)
  have hBg := V5 hge (oq.2.2.2.2.1 _ hgm)
  have hLg : BA.length ≤ 16384 := by
   have h8 := oq.2.1
   unfold iK at h8
   have h7 := congrArg List.length hge
   rw [List.length_map] at h7
   have h6 := Ob hgm
   omega
  have hhl := congrArg List.length hhs
  rw [List.length_map, List.length_take] at hhl
  refine fO O ?_
  have agF := UD.drew
  have Pg := V.kp (agF.f11.f11.f11.f11.f11.f11.f11.f11.f11.f11.f11)
  refine nG [2] Pg O (dJ 0 O Pg 0 dw O fC O (dJ 1 O Pg 0 dD O iZ O (fM 2 O Pg (fun W hW => fQ cO O ((Kp.h hW).f3).get.2 O) (fD 3 O Pg O (ny 4 O (wM O func173 (EI agF hBg hLg)) ?_)))))
  rintro u12 w12 ⟨acN, agE, wQ⟩
  obtain ⟨es2, rfl⟩ : ∃ q, q = acN := ⟨_, rfl⟩
  have hes2 := agE
  have Gn := V.kp (wQ.f13.f13.f13.f13.f13.f13.f13.f13.f13.f13.f13.f13.f13)
  refine dK Gn (fun W hW => (Kp.h hW).right.right.f11.f11.f11.f11.f11.f11.f11.f11.f11.f11.f11) ?_
  refine ny 5 O (nV (vs := [_]) wQ cO dA qQ O O O (by decide) (bG (by first | rfl | exact Rd.one ((wQ).aO)) dn)) ?_
  rintro l13 OL wB
  have yh := V.kp (wB.f14.f14.f14.f14.f14.f14.f14.f14.f14.f14.f14.f14.f14.f14)
  refine dK yh (fun W hW => (Kp.h hW).right.f13.f13.f13.f13.f13.f13.f13.f13.f13.f13.f13.f13.f13) ?_
  refine ny 6 O (jy wB.f7 cO Na O O O ((wB).aO) (bG (by first | rfl | exact Rd.one ((wB.f2).aO)) dn) (by omega) (by omega)) ?_
  rintro l14 OG rU
  have ahD := rU.f2.right
  have zA := V.kp (ahD.f13.f13.f13.f13.f13.f13.f13.f13.f13.f13.f13.f13.f13)
  refine gU zA (by kernel_rfl) ?_
  refine dJ 7 O zA 0 dw O fC O (dJ 8 O zA 0 dD O iZ O ?_)
  refine dF 9 O (by kernel_rfl) (ig 0 (l' := [_, _, _, _, _]) ahD.f6 iZ O O (by first | rfl | exact Rd.one ((ahD).aO)) O O) ?_
  rintro _ w16 uT
  have yY := V.kp (uT.f13.f13.f13.f13.f13.f13.f13.f13.f13.f13.f13.f13.f13)
  refine gU yY (by kernel_rfl) ?_
  have X := V.uY (es := es2) (uT.f5.right.f12.f12.f7.f12.f12.f12.f12.f8.f12.f10.f12.f12).deep
  have HN := (V.yV X.swap).afv.f3
  have hnew : (hs ++ [(u12, es2)]).map (fun g => g.2.map gX.says) = G.take (k + 1) := by rw [List.map_append, hhs, abd (by omega), ← hge, ← hes2]; rfl
  refine lJ (aH (aU (aF (aV (fH O O (by omega)) (bW O (bT ?_))))))
  refine dN (k + 1) ?_ ?_ ?_ ?_
  ·exact lH
  ·exact wW
  ·(try dsimp only)
   first | done | exact ⟨by omega, _, _, hnew, HN⟩
  ·(try dsimp only); omega
 ·(try simp only [Z] at h1)
  refine dR (aP (aP (bH (aU (jS O (dL results130 O ?_))))))
  rw [List.take_of_length_le (by omega)] at hhs
  have X := V.qX (gs := hs) (now := es1) oq hhs (hes1.trans yg) rfl (HL.f10.f10.f10.f10.f10.f10.f10.f10.f10.f10)
  have Y := V.qX oq y8 yg rfl X.f6.f6.f6.f6.f6
  exact ⟨_, O, Y.swap⟩
end
end Go.Proofs.YtpdeedplgmbopaaGreatDoor
end
section
namespace Go.Proofs.YtpdeedplgmbopaaGreatDoor
open Go.RowKit
def JJ (G : List (List jL)) (N : List jL) : List (List jL) := (qL G N).reverse
def UE (N : List jL) : List (List jL) := if N = [] then [] else [N]
theorem acR (N : List jL) : (UE N).length ≤ 1 := by unfold UE; split <;> simp
theorem afz (G : List (List jL)) (N : List jL) : JJ G N = UE N ++ G.reverse := by
  unfold JJ UE qL; split <;> simp
end Go.Proofs.YtpdeedplgmbopaaGreatDoor
end
section
namespace Go.Proofs.YtpdeedplgmbopaaGreatDoor
open Go.RowKit
open _root_.Go.Proofs.Tryz
abbrev wY := ByteArray × Int
def Gq (x : wY) : List Value := [.string x.1, .int .i64 x.2]
theorem SS (x : wY) : (Gq x).length = 2 := rfl
def akt (x : wY) : Prop := x.1.size ≤ 16384 ∧ 0 ≤ x.2
def HOk (hl : List wY) (base most : Int) : Prop := hl.length ≤ 4096 ∧ 1 ≤ base ∧ base ≤ 4611686018427387904 ∧ (hl.length : Int) ≤ most ∧ most ≤ 4096 ∧ ∀ x ∈ hl, akt x
def jZ (p : Nat) (hl : List wY) (base most : Int) : HP := zX fun (v : Value) => fact (HOk hl base most) • gJ p (.cells #[v, .int .i64 base, .int .i64 most] 153 (0, 0)) • Row 218 2 v hl.length (hl.flatMap Gq)
section
variable {P : Program} {L : List (Nat × Value)} {w0 w : World} {F : HP} {ty : TypeId} {p : Nat} {hl : List wY} {base most : Int} {v : Value}
theorem Ph {t e sz : Nat} {z : Value} (H : V w0 w F) (ht : P.underlying t = some (.slice e)) (hs : ∀ w, (sizeOf e).run P w = .ok sz w) (hz : ∀ w, (zeroValue e).run P w = .ok z w) :
    zU P L (.buildSlice t 0 #[]) ty w fun v w' => V w0 w' (Row e sz v 0 [] • F) := by
  refine yT (v := .slice (some ⟨w.heap.size, 0, none⟩) 0 0) (w' := w.alloc (.cells #[] e)) ?_ ?_
  · intro ρ hρ d pos sU g
    simp only [execOp, Instr.buildSlice, Sem.run_bind, run_underlying ht, Result.andThen_ok, hs]
    have h0 : Array.map (fun (_ : Nat) => (default : Value)) (Array.range 0) = #[] := Array.eq_empty_of_size_eq_zero (by simp)
    simp [Instr.fill, newRow, h0]
  · exact (H.alloc _).right.kF _
theorem V.hist (H : V w0 w (jZ p hl base most • F)) : ∃ v, HOk hl base most ∧ V w0 w (gJ p (.cells #[v, .int .i64 base, .int .i64 most] 153 (0, 0)) • Row 218 2 v hl.length (hl.flatMap Gq) • F) := by
  obtain ⟨v, H⟩ := H.qY
  obtain ⟨h, H⟩ := H.flat.fact
  exact ⟨v, h, H.flat⟩
theorem V.KE (h : HOk hl base most) (H : V w0 w (gJ p (.cells #[v, .int .i64 base, .int .i64 most] 153 (0, 0)) • Row 218 2 v hl.length (hl.flatMap Gq) • F)) : V w0 w (jZ p hl base most • F) :=
  V.kT v (V.deep (V.oQ h H.deep))
theorem Z7 {hl : List wY} : ∀ x ∈ hl.flatMap Gq, x.oneCell' = true := by
  intro x hx
  obtain ⟨e, _, hx⟩ := List.mem_flatMap.1 hx
  simp [Gq] at hx
  rcases hx with rfl | rfl <;> rfl
theorem afA : (prog.info? 218).map (fun i => (i.zero, i.size, i.bytes)) = some (some (.agg #[.string .empty, .int .i64 0]), 2, 24) := by kernel_rfl
theorem UF (H : V w0 w F) (hr : Ua w0 F 2 v hl.length (hl.flatMap Gq)) (hb : hl.length ≤ 1099511627776) :
    jf prog 150 #[v] w fun v' w' => V w0 w' (Row 218 2 v' hl.length (hl.flatMap Gq) • F) := by
  obtain ⟨hlen, a, c, rfl, h1, h2, h3⟩ := hr w H
  refine jE func150 ntmps150 ?_
  refine kH O (aI (bI O (aV (GK jB O O) ?_)))
  refine iW O (fun h1 => ?_) (fun h1 => ?_)
  · (try simp only [Z] at h1)
    refine jS O (aC (dL results150 O ?_))
    obtain rfl : a = none := by simpa using h1
    obtain rfl : hl = [] := by
      cases hl with
      | nil => rfl
      | cons x l => obtain ⟨b, o, e, _⟩ := h3 (by simp); cases e
    exact H.kF none
  · (try simp only [Z] at h1)
    refine gy (jg (kV (Ph H jB sizeOf218 zeroValue218) ?_))
    rintro _ w1 H1
    refine bW O (kV (jy H1 jB afA O O O (hr.under _ H1) Z7 (by omega) (by omega)) ?_)
    rintro _ w2 H2
    refine fP O (dL results150 O ?_)
    exact H2.of_eq (by rw [Nat.zero_add, List.nil_append])
theorem Jk (H : V w0 w (jZ p hl base most • F)) : jf prog 149 #[.pointer (some ⟨p, 0, none⟩)] w fun v w' => v = .bool false ∧ w = w' := by
 refine jE func149 ntmps149 ?_
 refine kH O (aI ?_)
 obtain ⟨YJ, Jc, Gz⟩ := (H).hist
 refine aF (bW O (aV (kU nK O O) (jY O (fun h1 => ?_) (fun h1 => ?_))))
 ·(try simp only [Z] at h1)
  exfalso; first | contradiction | omega
 ·(try simp only [Z] at h1)
  refine bF (bW O (bF (dV O (bF (bM 0 pK O sizeOf151 O (bF (bM 1 pO O fV O (bF (eH gq O (Gz).get.2 O (bF (aV (fB O O) (iH O O (fP O (dL results149 O ?_))))))))))))))
  exact ⟨by rw [show (base == 0) = false from by rw [beq_eq_false_iff_ne]; have := Jc.2.1; omega], O⟩
theorem UG {n : Int} (H : V w0 w F) (hn : 0 ≤ n ∧ n ≤ 4096) : jf prog 55 #[.int .i64 n] w fun v w' => ∃ p, v = .tuple #[.pointer (some ⟨p, 0, none⟩), .int .i64 0] ∧ V w0 w' (jZ p [] 1 n • F) := by
  refine jE func55 ntmps55 ?_
  refine jg (gW O (tX O (bI O (aV (gG O O) (jY O (fun h1 => ?_) (fun h1 => ?_))))))
  · (try simp only [Z] at h1)
    exfalso; first | contradiction | omega
  · (try simp only [Z] at h1)
    refine bF (bW O (bF (aV (gK O O) (iH O O (iW O (fun h2 => ?_) (fun h2 => ?_))))))
    · (try simp only [Z] at h2)
      exfalso; first | contradiction | omega
    · (try simp only [Z] at h2)
      refine gy (bI O (aV (qx (pl := #[(0, 1), (1, 1), (2, 1)]) (#[_, _, _]) pO zeroValue151 (fun w => by kernel_rfl) O (O)) (aV (qx (pl := #[(0, 3)]) (#[_, _, _]) pK zeroValue153 (fun w => by kernel_rfl) O (O)) (kV (kK (l := [_, _, _]) H O O) ?_))))
      rintro _ w1 ⟨b1, rfl, H1⟩
      refine gW O (fP O (MO results55 O O ?_))
      exact ⟨_, O, V.KE (v := .slice none 0 0) ⟨by simp, by decide, by decide, by simp; omega, by omega, by simp⟩ ((H1.kF none).swap)⟩
theorem uZ (H : V w0 w (jZ p hl base most • F)) : jf prog 117 #[.pointer (some ⟨p, 0, none⟩)] w fun v w' => v = .int .i64 hl.length ∧ V w0 w' (jZ p hl base most • F) := by
 refine jE func117 ntmps117 ?_
 refine kH O (aI (bI O (dX O func149 (Jk H) ?_)))
 rintro _ _ ⟨rfl, rfl⟩
 refine iR (oL (gy (aI ?_)))
 obtain ⟨YJ, Jc, Gz⟩ := (H).hist
 refine aF (mX O O (bM 0 pK O sizeOf151 O (bM 0 pO O sizeOf149 O (eH jB O (Gz).get.2 O (aV (ku ((Gz.f2).aO) jB O) (fP O (dL results117 O ?_)))))))
 have Uu := Gz.f2.f2
 have Rj := V.KE Jc Uu
 exact ⟨O, Rj⟩
theorem zC (H : V w0 w (jZ p hl base most • F)) : jf prog 109 #[.pointer (some ⟨p, 0, none⟩)] w fun v w' => ∃ q, v = .pointer (some ⟨q, 0, none⟩) ∧ V w0 w' (jZ q hl base most • jZ p hl base most • F) := by
 refine jE func109 ntmps109 ?_
 refine kH O (aI (bI O (dX O func149 (Jk H) ?_)))
 rintro _ _ ⟨rfl, rfl⟩
 refine iR (oL (gy (aI ?_)))
 obtain ⟨YJ, Jc, Gz⟩ := (H).hist
 have hcl := Jc.1
 have ED := Gz.drew
 have jh := V.kp (ED.f2.f2)
 refine nG [4, 10, 15] jh O (fD 0 O jh O (iG 1 O jh O (dJ 2 O jh 0 pK O sizeOf151 O (dJ 3 O jh 0 pO O sizeOf149 O (fM 4 O jh (fun W hW => fQ jB O ((Kp.h hW)).get.2 O) (fD 6 O jh O (iG 7 O jh O (dJ 8 O jh 0 pK O sizeOf151 O (dJ 9 O jh 1 pO O fV O (fM 10 O jh (fun W hW => fQ gq O ((Kp.h hW)).get.2 O) (fD 11 O jh O (iG 12 O jh O (dJ 13 O jh 0 pK O sizeOf151 O (dJ 14 O jh 2 pO O aj O (fM 15 O jh (fun W hW => fQ aA O ((Kp.h hW)).get.2 O) (ny 5 O (wM O func150 (UF ED (fun W HW => (HW.f2).aO) (by omega))) ?_))))))))))))))))
 rintro u3 w3 H3
 have uQ := V.kp (H3.f3.f3.f3)
 refine dK uQ (fun W hW => (Kp.h hW).right.f2.f2) ?_
 obtain ⟨au3, cu3, eu3, -⟩ := ((H3).aO).form
 subst eu3
 refine dS 16 O uQ (fun _ => qx (pl := #[(0, 1), (1, 1), (2, 1)]) (#[_, _, _]) pO zeroValue151 (fun w => by kernel_rfl) O (O)) (dS 17 O uQ (fun _ => qx (pl := #[(0, 3)]) (#[_, _, _]) pK zeroValue153 (fun w => by kernel_rfl) O (O)) (ny 18 O (kK (l := [_, _, _]) H3 O O) ?_))
 rintro _ w4 ⟨b4, rfl, H4⟩
 have oH := V.kp (H4.f4.f4.f4.f4)
 refine gU oH (by kernel_rfl) ?_
 refine dS 19 O oH (fun _ => aW O) (lJ (aU (iL (dL results109 O ?_))))
 have UA := H4.f4.f4
 have QU := V.KE Jc UA
 exact ⟨_, O, V.KE Jc QU.f3.f3⟩
end
end Go.Proofs.YtpdeedplgmbopaaGreatDoor
end
section
namespace Go.Proofs.YtpdeedplgmbopaaGreatDoor
open Go.RowKit
def zD {β : Type} (f : Int → β) (a : Int) (v : β) : Int → β := fun x => if x = a then v else f x
theorem jo {β : Type} (f : Int → β) (a : Int) (v : β) : zD f a v a = v := if_pos rfl
theorem zF {β : Type} (f : Int → β) {a x : Int} (v : β) (h : x ≠ a) : zD f a v x = f x := if_neg h
theorem Z8 {β : Type} (f : Int → β) (a : Int) : zD f a (f a) = f := by funext x; unfold zD; split <;> simp_all
structure rC where
  L : List Int
  pt : Int
  mark : Int
  E : List (List Int)
  at_ : Nat
  place : Int
  tx : Int → Option ByteArray
  un : Int → List (List jL)
  mode : Int
  over : Bool
  last : Int
  fr : Int
  to : Int
  res : Int
  run : Bool
structure bQ where
  c : rC
  hl : List wY
  base : Int
  most : Int
  lI : Int
  given : Bool
  minus : Bool
  arg : Int
  inn : Bool
  was : rC
  cls : Int
  killed : Bool
  mM : Bool
  argues : Bool
  whole : Bool
  put : List jL
def V6 (hl : List wY) (k : Int) : wY := if 0 ≤ k ∧ k < hl.length then hl.getD k.toNat default else (.empty, 0)
def FU (hl : List wY) (k : Int) : ByteArray := (V6 hl k).1
def lS (hl : List wY) (tx : Int → Option ByteArray) (k : Int) : ByteArray := (tx k).getD (FU hl k)
def IK (hl : List wY) (tx : Int → Option ByteArray) (place : Int) (k : Nat) : Bool := decide ((k : Int) ≠ place) && !((lS hl tx k).toList == (FU hl k).toList)
def xC (hl : List wY) (tx : Int → Option ByteArray) (place : Int) (n : Nat) : List (Int × ByteArray) := ((List.range n).filter (IK hl tx place)).map fun (k : Nat) => ((k : Int), lS hl tx k)
def FV (hl : List wY) (tx : Int → Option ByteArray) (place : Int) : List (Int × ByteArray) := xC hl tx place hl.length ++ (if place ≠ hl.length then [((hl.length : Int), lS hl tx hl.length)] else [])
def wZ (G : List (List jL)) (inn : Bool) (put : List jL) (typed run : Bool) : Int := (G.length : Int) + if inn && !put.isEmpty && !(typed && run) then 1 else 0
namespace bQ
variable (s : bQ)
def here : List (List jL) := s.c.un s.c.place
def lV (G : List (List jL)) : bQ := { s with c := { s.c with un := zD s.c.un s.c.place G } }
def AX : Int := if s.inn then 0 else 1
def FW : Int := if s.inn then 1 else 0
def cZ : bQ := if s.inn then s else { s with inn := true, was := s.c, cls := 0, killed := false, mM := false, argues := false, whole := true, put := [] }
def jr (on : Bool) : List (List jL) := if s.put = [] then s.here else if on then (match s.here.getLast? with | some g => s.here.dropLast ++ [g ++ s.put] | none => [s.put]) else s.here ++ [s.put]
def eX (on : Bool) : bQ := if s.put = [] then s else { s.lV (s.jr on) with put := [] }
def wI : bQ := { s with given := false, minus := false, arg := -1 }
def BD (err : Int) : Int := if s.inn then err else 1
def BF : bQ := { s.wI with inn := false, c := { s.was with last := 0, fr := 0, to := 0 }, lI := IntKind.i64.wrap (s.lI + 1), put := [] }
def typed : Bool := s.cls == 3 && s.whole
def kR : bQ := { (if s.argues then s else s.wI) with inn := false }
def mD : bQ :=
  let t := s.kR.eX (s.typed && s.c.run)
  let c := { t.c with run := s.typed && (!s.put.isEmpty || s.c.run), last := s.cls }
  { t with c := if s.cls ≠ 2 then { c with fr := 0, to := 0 } else c }
def lQ (err : Int) : bQ := if s.inn then (if err = 0 then s.mD else s.BF) else s
def vJ (x : jL) : bQ :=
  if x.2.1.length + x.2.2.length = 0 then s else
  if 16384 ≤ iK s.here s.put then { s.lV [] with put := [x], c := { (s.lV []).c with run := false } } else { s with put := s.put ++ [x] }
def pR (L : List Int) (pt mk : Int) : bQ := { s with c := { s.c with L := L, pt := pt, mark := mk } }
def rD (i j : Int) (l : List Int) : Int := if s.inn then nP s.c.L i j l else 1
def nR (i j : Int) (l : List Int) : bQ := if s.inn then (s.pR (nY s.c.L i j l) (wH s.c.L s.c.pt i j l) (yc s.c.L s.c.mark i j l)).vJ (xK s.c.L i j l, qB s.c.L i j l, qC s.c.L i j l) else s
def V7 (l : List Int) : Int := s.rD s.c.pt s.c.pt l
def DK (l : List Int) : bQ := s.nR s.c.pt s.c.pt l
def LY (l : List Int) : Int := if s.c.over then min (s.c.pt + l.length) s.c.L.length else s.c.pt
def Z9 (l : List Int) : Int := s.rD s.c.pt (s.LY l) l
def Gs (l : List Int) : bQ := if s.inn then (let t := s.nR s.c.pt (s.LY l) l; if s.Z9 l = 0 ∧ s.cls = 0 then { t with cls := 3 } else t) else s
def way (back : Bool) : Int := if s.c.last = 1 ∨ s.killed = true then (if back then 2 else 1) else 0
def wJ (i j : Int) : Prop := i < 0 ∨ s.c.L.length < i ∨ j < i ∨ s.c.L.length < j
instance (i j : Int) : Decidable (s.wJ i j) := by unfold wJ; infer_instance
def cut (i j : Int) : List Int := (s.c.L.drop i.toNat).take (j.toNat - i.toNat)
def yj (i j : Int) (back : Bool) : Int × List (List Int) × Nat := Hf s.c.E s.c.at_ (s.way back) (s.cut i j)
def xO (i j : Int) (back : Bool) : Int := if s.inn then (if s.wJ i j then 70 else (s.yj i j back).1) else 1
def Oc (E : List (List Int)) (a : Nat) : bQ := { s with c := { s.c with E := E, at_ := a } }
def yu (i j : Int) (back : Bool) : bQ := if s.xO i j back = 0 then { s.Oc (s.yj i j back).2.1 (s.yj i j back).2.2 with killed := true, cls := 1 } else s
def Nb (i j : Int) (back : Bool) : Int := if s.xO i j back = 0 then (s.yu i j back).rD i j [] else s.xO i j back
def zG (i j : Int) (back : Bool) : bQ := if s.xO i j back = 0 then (s.yu i j back).nR i j [] else s
def top : List Int := s.c.E.getD s.c.at_ []
def xg : Int := if s.inn then (if s.c.E.length = 0 then 6 else s.V7 s.top) else 1
def oI : bQ :=
  if s.xg = 0 then
    let t := s.DK s.top
    { t with mM := true, cls := 2, c := { t.c with mark := smM t.c.L t.c.mark s.c.pt, fr := s.c.pt, to := s.c.pt + s.top.length } }
  else s
def afB (n : Int) : List Int := s.c.E.getD (I9 s.c.E.length s.c.at_ n) []
def ajg (n : Int) : Int := if s.inn then (if s.c.last ≠ 2 ∨ s.mM = true then 6 else if s.c.E.length = 0 then 6 else s.rD s.c.fr s.c.to (s.afB n)) else 1
def ajh (n : Int) : bQ :=
  if s.ajg n = 0 then
    let t := s.nR s.c.fr s.c.to (s.afB n)
    { t with mM := true, cls := 2, c := { t.c with E := s.c.E, at_ := I9 s.c.E.length s.c.at_ n, fr := s.c.fr, to := s.c.fr + (s.afB n).length } }
  else s
def kills : List (List Int) := s.c.E.drop s.c.at_ ++ s.c.E.take s.c.at_
def DL (x : Int) : Int := if s.inn then mvE s.c.L.length x else 1
def wK (x : Int) : bQ := if s.inn then s.pR s.c.L (mvP s.c.L.length s.c.pt x) s.c.mark else s
def alO (x : Int) : Int := if s.inn then smE s.c.L x else 1
def agG (x : Int) : bQ := if s.inn then s.pR s.c.L s.c.pt (smM s.c.L s.c.mark x) else s
def alP : Int := if s.inn then swE s.c.mark else 1
def agH : bQ := if s.inn then s.pR s.c.L (swP s.c.pt s.c.mark) (swM s.c.pt s.c.mark) else s
def ahE (b : List Int × Int × Int) (x : jL) : List Int × Int × Int := (G9 b.1 x.1 x.2.1 x.2.2, Yr b.1 b.2.1 x.1 x.2.1 x.2.2, Yt b.1 b.2.2 x.1 x.2.1 x.2.2)
def apps (b : List Int × Int × Int) (l : List jL) : List Int × Int × Int := l.foldl ahE b
def KF (l : List jL) : bQ := let b := apps (s.c.L, s.c.pt, s.c.mark) l; s.pR b.1 b.2.1 b.2.2
def Ce : bQ := { s with whole := false, c := { s.c with run := false } }
def vK : bQ := if s.inn then (let t := s.eX false; if t.here = [] then t else ((t.lV t.here.dropLast).KF ((t.here.getLastD []).reverse.map Bz)).Ce) else s
def vI : Int := if s.inn then (if (s.eX false).here = [] then 6 else 0) else 1
def NS : bQ := if s.inn then (let t := s.eX false; if t.here = [] then t else ((t.lV []).KF (t.here.flatten.reverse.map Bz)).Ce) else s
def EJ (d : Int) : Int := if s.inn then (if d < 0 ∨ 9 < d then 1 else 0) else 1
def FX (d : Int) : bQ := if s.EJ d = 0 then { s with given := true, argues := true, arg := min (max s.arg 0 * 10 + d) 1000000 } else s
def ama : bQ := if s.inn then { s with given := true, argues := true, minus := !s.minus } else s
def aku (n : Int) : Int := if s.inn then (if 1000000 < n ∨ n < -1000000 then 1 else 0) else 1
def amb (n : Int) : bQ := if s.aku n = 0 then { s with given := true, argues := true, minus := decide (n < 0), arg := max n (-n) } else s
def count : Int := if s.given then (let n := if s.arg < 0 then 1 else s.arg; if s.minus then -n else n) else 1
def yw (m : Int) : Int := if s.inn then (if m < 0 ∨ 2 < m then 1 else 0) else 1
def zH (m : Int) : bQ := if s.yw m = 0 then { s with c := { s.c with mode := m } } else s
def Pj (b : Bool) : bQ := if s.inn then { s with c := { s.c with over := b } } else s
def akv (r : Int) : Int := if s.inn then (if r < 1 ∨ 3 < r then 1 else 0) else 1
def amc (r : Int) : bQ := if s.akv r = 0 then { s with c := { s.c with res := r } } else s
def first (k : Int) : ByteArray := FU s.hl k
def stands (k : Int) : ByteArray := (s.c.tx k).getD (s.first k)
def rE : Int := wZ s.here s.inn s.put s.typed s.c.run
def saved : List (Int × ByteArray) := FV s.hl s.c.tx s.c.place
def Ef : Int := if s.inn then s.was.last else s.c.last
def frS : Int := if s.inn then s.was.fr else s.c.fr
def toS : Int := if s.inn then s.was.to else s.c.to
end bQ
def rC.fresh (l : List Int) (E : List (List Int)) (a : Nat) (place mode : Int) : rC := ⟨l, l.length, -1, E, a, place, fun _ => none, fun _ => [], mode, false, 0, 0, 0, 0, false⟩
def bQ.start (s : bQ) (hl : List wY) (base most : Int) (l : List Int) : bQ := { s with c := rC.fresh l s.c.E s.c.at_ hl.length s.c.mode, hl := hl, base := base, most := most, given := false, minus := false, arg := -1 }
def bQ.new (hl : List wY) (base most : Int) : bQ :=
  let c := rC.fresh [] [] 0 hl.length 0
  { c := c, hl := hl, base := base, most := most, lI := 0, given := false, minus := false, arg := -1, inn := false, was := c, cls := 0, killed := false, mM := false, argues := false, whole := false, put := [] }
end Go.Proofs.YtpdeedplgmbopaaGreatDoor
end
