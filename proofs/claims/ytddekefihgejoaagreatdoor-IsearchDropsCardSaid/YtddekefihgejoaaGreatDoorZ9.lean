import Derived.Test.YtddekefihgejoaaGreatDoorZ2
import Derived.Test.YtddekefihgejoaaGreatDoorZ8
import Derived.Test.YtddekefihgejoaaGreatDoorZ7
import Derived.Test.YtddekefihgejoaaGreatDoorZ6
set_option linter.unusedSimpArgs false
set_option linter.unusedVariables false
/- Texts of mine, joined, their names in short: UList3 UList4 UList5 UList6 UList7 Grp0 EdM. -/
section
namespace Go.Proofs.YtddekefihgejoaaGreatDoor
open Go.RowKit
open _root_.Go.Proofs.Tryz
def Em (e : fG) : fG := (e.1, e.2.2, e.2.1)
def Rj (c : Nat) (es : List dw) (k : Nat) : HP := qC fun (x : Value × List dw) => fact (x.2.map dw.says = ((es.map dw.says).reverse.take k).map Em) • cO c (.cells #[x.1] 67 (0, 0)) • Fv x.1 x.2
theorem Rk {es : List dw} {k : Nat} (hk : k < es.length) : ((es.map dw.says).reverse.take (k + 1)).map Em = ((es.map dw.says).reverse.take k).map Em ++ [Em (es.getD (es.length - (k + 1)) default).says] := by
  rw [List.take_succ_eq_append_getElem (by simpa using hk), List.map_append]
  congr 1
  simp only [List.map_cons, List.map_nil, List.getElem_reverse, List.getElem_map, List.length_map]
  rw [List.getD_eq_getElem?_getD, List.getElem?_eq_getElem (by omega)]
  have e : es.length - 1 - k = es.length - (k + 1) := by omega
  simp only [Option.getD_some, e]
section
variable {w0 w : World} {F : HP} {p : Nat} {G : List (List fG)} {N : List fG} {op : Int} {gv nv v : Value} {gs : List (Value × List dw)} {now es : List dw} {a : Int} {d z : Value} {dl il : List Int}
theorem aA.JK {c k : Nat} (H : aA w0 w (Rj c es k • F)) : ∃ u fs, fs.map dw.says = ((es.map dw.says).reverse.take k).map Em ∧ fs.length ≤ es.length ∧ aA w0 w (cO c (.cells #[u] 67 (0, 0)) • Row 202 3 u fs.length (fs.flatMap dw.enc) • jq fs • F) := by
  obtain ⟨⟨u, fs⟩, H⟩ := H.kU
  obtain ⟨h, H⟩ := H.flat.fact
  refine ⟨u, fs, h, ?_, ?_⟩
  · have := congrArg List.length h
    simp at this
    omega
  · have := H.flat
    unfold Fv at this
    exact this.of_eq (by ac_rfl)
theorem aA.Rl {c k : Nat} {u : Value} {fs : List dw} (h : fs.map dw.says = ((es.map dw.says).reverse.take k).map Em) (H : aA w0 w (cO c (.cells #[u] 67 (0, 0)) • Fv u fs • F)) : aA w0 w (Rj c es k • F) :=
  aA.gY (u, fs) (aA.deep (aA.jU h H.deep))
theorem aA.Wx (H : aA w0 w (Ar v es • F)) {k : Nat} (hk : k < es.length) : aA w0 w (nY .i32 (es.getD k default).d (es.getD k default).dl • nY .i32 (es.getD k default).i (es.getD k default).il • Ar v es • F) := by
  have h1 : aA w0 w (nY .i32 (es.getD k default).d (es.getD k default).dl • Ar v es • Ar v es • F) := H.Ib.Ib.Dh (pY (fun I h => (h.2 k hk).1) _)
  have h2 : aA w0 w (nY .i32 (es.getD k default).i (es.getD k default).il • nY .i32 (es.getD k default).d (es.getD k default).dl • Ar v es • F) := h1.swap.Dh (pY (fun I h => (h.2 k hk).2) _)
  exact h2.swap
theorem Ph (H : aA w0 w F) (hv : v.oneCell' = true) : fQ prog 177 #[v] w fun v' w' => ∃ b, v' = .func (.func 182) #[] #[.pointer (some ⟨b, 0, none⟩)] ∧ aA w0 w' (cO b (.cells #[v] 67 (0, 0)) • F) := by
 refine iw func177 ntmps177 ?_
 dsimp only [aZ, Nat.reduceAdd]
 refine ay (ah (gB (ig (l := [_]) H rfl (by first | rfl | exact xQ (by first | rfl | assumption))) ?_))
 rintro _ w1 ⟨b1, rfl, H1⟩
 refine aW rfl (aB (aj (ay (ah (aU (rV rfl rfl) (aW rfl (aB (aj (aN (aT (.inl rfl) results177 rfl ?_))))))))))
 exact ⟨_, rfl, H1⟩
theorem zS (H : aA w0 w (Ar v es • F)) (hB : ∀ k, k < es.length → EB (es.getD k default).says) (hL : es.length ≤ 16384) :
  fQ prog 167 #[v] w fun v' w' => ∃ fs : List dw, fs.map dw.says = (es.map dw.says).reverse.map Em ∧ aA w0 w' (Row 202 3 v' fs.length (fs.flatMap dw.enc) • jq fs • Ar v es • F) := by
 refine iw func167 ntmps167 ?_
 dsimp only [aZ, Nat.reduceAdd]
 refine ay (ah (aW rfl (aB (aj (ay (ah (gB (bW (l := [_]) H zeroValue67 rfl) ?_)))))))
 rintro _ w1 ⟨b1, rfl, H1⟩
 refine aB (aj (ay (ay (ah (aP rfl (dD rfl func177 (Ph H1 (Rd.one ((H1.f2).yP))) ?_))))))
 rintro _ w2 ⟨bB2, rfl, H2⟩
 refine aB (aj (aY ?_))
 have Ho3 := H2.f2
 have Hc4 := aA.Rl (es := es) (k := 0) (fs := []) rfl (Ho3.pI none).swap
 refine qY rfl (Pg bB2) (fun k => Rj b1 es k • F) (fact False) (fun _ => fact False) (Hc4.f3.f3.f3.f3.f3.g2.comm) (by rfl) ?_ ?_ ?_ ?_
 ·rintro l5 k UF vs5 A5 ⟨rfl, rfl⟩ G5 w5 H5
  try simp only [bF, ji, nO] at H5
  refine ⟨rfl, ?_⟩
  dsimp only [JI]
  have Hq := (H5).Wx (k := es.length - (k + 1)) (by omega)
  obtain ⟨hb1, hb2⟩ := hB (es.length - (k + 1)) (by omega)
  have hb1 : (es.getD (es.length - (k + 1)) default).dl.length ≤ 35184372087808 := hb1
  have hb2 : (es.getD (es.length - (k + 1)) default).il.length ≤ 35184372087808 := hb2
  obtain ⟨u, fs, hfs, hfl, HI⟩ := (Hq.f4).JK
  refine ah (gB (bW (l := [_, _, _]) HI zeroValue202 rfl) ?_)
  rintro _ w6 ⟨b6, rfl, H6⟩
  refine aI (bC 0 (l' := [_, _, _]) (us := [_, _, _]) H6 sizeOf202 rfl rfl rfl (aC (by first | rfl | assumption) (aC (by first | rfl | exact Rd.one ((H6.f5).jH)) (aC (by first | rfl | exact Rd.one ((H6.f6).jH)) bg))) rfl rfl) ?_
  rintro _ w7 H7
  refine aB ?_
  refine Ia (H7.g8) ?_
  intro G8 w8 H8
  try simp only [bF] at H8
  refine aY ?_
  have Yz := H8.drew
  have Rn := aA.kp (Yz.f7.f7.f7.f7.f7.f7.f7)
  refine vJ [0, 1] Rn rfl (gG 0 rfl Rn (fun W hW => iF underlying67 rfl ((Kp.h hW).f2).get.2 rfl) (gG 1 rfl Rn (fun W hW => bQ underlying202 rfl sizeOf202 rfl rfl ((Kp.h hW)).get.2) (jm 2 rfl (rX rfl func178 (AP Yz (fun W HW => (HW.f5).jH) (fun W HW => (HW.f6).jH) (by omega) (by omega))) ?_)))
  rintro _ w9 ⟨d9, s9, rfl, H9⟩
  have Q8 := aA.kp (H9.f9.f9.f9.f9.f9.f9.f9.f9.f9)
  refine bU Q8 (fun W hW => (Kp.h hW).right.right.f7.f7.f7.f7.f7.f7.f7) ?_
  refine jm 3 rfl (mP H9 underlying67 sizeOf202 zeroValue202 rfl rfl rfl (by decide) (by decide)) ?_
  rintro l10 w10 qK
  have Ro := aA.kp (qK.f10.f10.f10.f10.f10.f10.f10.f10.f10.f10)
  refine bU Ro (fun W hW => (Kp.h hW).right.f9.f9.f9.f9.f9.f9.f9.f9.f9) ?_
  refine jm 4 rfl (fK qK.f6 underlying67 (show (prog.info? 202).map (fun i => (i.zero, i.size, i.bytes)) = some (some (.agg #[.int .i64 0, .slice none 0 0, .slice none 0 0]), 3, 56) by kernel_rfl) rfl rfl rfl ((qK).aJ) (aC (by first | rfl | assumption) (aC (by first | rfl | exact Rd.one ((qK.f2).aJ)) (aC (by first | rfl | exact Rd.one ((qK.f3).aJ)) bg))) (by omega) (by omega)) ?_
  rintro YA IV vK
  have FD := vK.f2.right
  have zN := aA.kp (FD.f9.f9.f9.f9.f9.f9.f9.f9.f9)
  refine dS zN (by kernel_rfl) ?_
  refine dO 5 rfl (by kernel_rfl) (aS 0 (l' := [_]) FD.f5 sizeOf67 rfl rfl (by first | rfl | exact Rd.one ((FD).aJ)) rfl rfl) ?_
  rintro _ OY xq
  have Ei := aA.kp (xq.f9.f9.f9.f9.f9.f9.f9.f9.f9)
  refine dS Ei (by kernel_rfl) ?_
  refine mD (aH ?_)
  refine yS ?_
  have X := (xq.f5.right.f6.right.f6.right.f6.right.f6.f2.f6.f4.f6.f6).jE.swap.jE.swap
  have X2 := aA.uP X.f3
  exact (aA.Rl (es := es) (k := k + 1) (by rw [List.map_append, hfs, Rk (by omega)]; rfl) X2.swap).deep
 ·rintro D14 OZ yR
  have Rq := yR.ed
  try simp only [bF, ji, nO] at Rq
  have Wy := Rq.I7
  obtain ⟨u, fs, hfs, hfl, HI⟩ := (Wy.f4).JK
  refine aH (aj (ay (ah (dA underlying67 rfl (HI).get.2 rfl (aW rfl (aB (aj (aN ?_))))))))
  refine zu (.inl rfl) (HI.f4) (fun QV xu => ?_)
  refine ⟨_, TY results167 rfl, ?_⟩
  rw [List.take_of_length_le (by simp)] at hfs
  exact ⟨_, hfs, xu.right.f3.right.f3.f3.f3⟩
 ·rintro D w H; exact absurd H.swap.fact.1 id
 ·rintro id D w H; exact absurd H.swap.fact.1 fun h => h
end
end Go.Proofs.YtddekefihgejoaaGreatDoor
end
section
namespace Go.Proofs.YtddekefihgejoaaGreatDoor
open Go.RowKit
open _root_.Go.Proofs.Tryz
def Rt (G : List (List fG)) (N : List fG) : Int := if G.length + N.length = 0 then 6 else 0
def NK (G : List (List fG)) (N : List fG) : List (List fG) := if G.length + N.length = 0 then G else (jr G N).dropLast
def NM (G : List (List fG)) (N : List fG) : List fG := if G.length + N.length = 0 then N else []
def NQ (G : List (List fG)) (N : List fG) (op : Int) : Int := if G.length + N.length = 0 then op else 0
def Vu (G : List (List fG)) (N : List fG) : List fG := if G.length + N.length = 0 then [] else ((jr G N).getLastD []).reverse.map Em
theorem Gh {G : List (List fG)} {g N : List fG} : fB (G ++ [g]) N = fB G N + g.length := by simp [fB]; omega
section
variable {w0 w : World} {F : HP} {p : Nat} {G : List (List fG)} {N : List fG} {op : Int} {gv nv v : Value} {gs : List (Value × List dw)} {now es : List dw} {a : Int} {d z : Value} {dl il : List Int}
theorem L8 (h : ¬ G.length + N.length = 0) : jr G N ≠ [] := by
  unfold jr; split
  · rename_i hN; rintro rfl; subst hN; exact h rfl
  · simp
theorem aA.L9 (H : aA w0 w (eF p G [] op • F)) (hG : G ≠ []) : ∃ gv nv hs gl wC, G = hs.map (fun g => g.2.map dw.says) ++ [wC.map dw.says] ∧ UE G [] op ∧ G.length = hs.length + 1 ∧ hs.length ≤ 16384 ∧ wC.length ≤ 16384 ∧ (∀ k, k < wC.length → EB (wC.getD k default).says) ∧
    aA w0 w (cO p (.cells #[gv, nv, .int .i64 op, .int .i64 (fB G [] : Nat), .bool true] 233 (0, 0)) • Row 67 1 gv (hs.length + 1) (hs.map (·.1) ++ [gl]) • nZ hs • Ar gl wC • Fv nv [] • F) := by
  obtain ⟨gv, nv, gs, now, h1, h2, h3, h4, h5, h6, H⟩ := H.qO
  obtain rfl : now = [] := List.eq_nil_of_length_eq_zero (by simpa using h5)
  rcases List.eq_nil_or_concat gs with rfl | ⟨hs, ⟨gl, wC⟩, rfl⟩
  · exact absurd h2.symm hG
  · have hG2 : G = hs.map (fun g => g.2.map dw.says) ++ [wC.map dw.says] := by rw [← h2]; simp
    have hle : wC.length ≤ 16384 := by
      have := h1.2.1
      rw [hG2, Gh] at this
      simp at this
      omega
    refine ⟨gv, nv, hs, gl, wC, hG2, h1, ?_, ?_, hle, fun k hk => ?_, ?_⟩
    · rw [hG2]; simp
    · rw [hG2] at h6; simp at h6; omega
    · refine h1.2.2.2.2.1 (wC.map dw.says) (by rw [hG2]; simp) _ ?_
      rw [List.getD_eq_getElem?_getD, List.getElem?_eq_getElem hk]
      exact List.mem_map_of_mem (List.getElem_mem hk)
    · rw [List.concat_eq_append, List.length_append, List.map_append] at H
      have H1 := (H.f3.Jq (k := hs.length) (by simp)).swap
      rw [show (hs ++ [(gl, wC)]).getD hs.length default = (gl, wC) from by simp [List.getD_eq_getElem?_getD]] at H1
      have H2 := H1.QJ hs.length
      rw [List.take_left' rfl] at H2
      exact H2.of_eq (by unfold Fv; ac_rfl)
theorem yE (H : aA w0 w (eF p G N op • F)) : fQ prog 131 #[.pointer (some ⟨p, 0, none⟩)] w fun v w' => ∃ u, ∃ fs : List dw, v = .tuple #[u, .int .i64 (Rt G N)] ∧ fs.map dw.says = Vu G N ∧
  aA w0 w' (Row 202 3 u fs.length (fs.flatMap dw.enc) • jq fs • eF p (NK G N) (NM G N) (NQ G N op) • F) := by
 unfold Rt Vu NK NM NQ
 refine iw func131 ntmps131 ?_
 dsimp only [aZ, Nat.reduceAdd]
 refine ay (ah (aW rfl (aW rfl (aB (aj (ay (ay (ah (aP rfl (dD rfl func161 (iO H) ?_))))))))))
 rintro _ _ ⟨rfl, rfl⟩
 refine aB (aj (pW (aQ (aj (ay (ay ?_))))))
 obtain ⟨wU, uj, jJ, jh, iR, o7, mY, Ba, Bc, FC, kT⟩ := (H).qO
 have AQ := kT.drew
 have fD := aA.kp (AQ.f5.f5.f5.f5.f5)
 refine vJ [4, 10] fD rfl (fU 0 rfl fD rfl (iZ 1 rfl fD rfl (dU 2 rfl fD 0 underlying233 rfl sizeOf231 rfl (dU 3 rfl fD 0 underlying231 rfl sizeOf180 rfl (gG 4 rfl fD (fun W hW => iF underlying180 rfl ((Kp.h hW)).get.2 rfl) (gZ 5 rfl fD (fun _ => eY ((AQ.f2).aJ) underlying180 rfl) (fU 6 rfl fD rfl (iZ 7 rfl fD rfl (dU 8 rfl fD 0 underlying233 rfl sizeOf231 rfl (dU 9 rfl fD 1 underlying231 rfl sizeOf67 rfl (gG 10 rfl fD (fun W hW => iF underlying67 rfl ((Kp.h hW)).get.2 rfl) (gZ 11 rfl fD (fun _ => eY ((AQ.f4).aJ) underlying67 rfl) (gZ 12 rfl fD (fun _ => dR rfl rfl (by omega)) (gZ 13 rfl fD (fun _ => iQ rfl rfl) (mD (aj (aO rfl (fun h1 => ?_) (fun h1 => ?_))))))))))))))))))
 ·(try simp only [aG] at h1)
  have ZL : G.length + N.length = 0 := by omega
  have Js := AQ.f5.f5.f5.f5.f5
  have Jt := aA.jB iR o7 mY rfl Js
  refine ay (ah (aW rfl (aW rfl (aB (aj (aN (aK (gQ (.inl rfl) results131 rfl rfl ?_))))))))
  simp only [if_pos ZL]
  exact ⟨_, [], rfl, rfl, ((Jt).pI none).XB⟩
 ·(try simp only [aG] at h1)
  have ZL : ¬ G.length + N.length = 0 := by omega
  have Ru := AQ.f5.f5.f5.f5.f5
  have Pj := aA.jB iR o7 mY rfl Ru
  refine aQ (aj (ay (ah (aP rfl (dD rfl func166 (xA Pj) ?_)))))
  rintro _ w9 H9
  refine aB (aj (ay ?_))
  obtain ⟨gv, nv, hs, gl, wC, hG, hok, hl1, hl2, hl3, hEB, HU⟩ := (H9).L9 (L8 ZL)
  have htot := hok.2.1
  refine ah (aP rfl (bT rfl (bf 0 underlying233 rfl sizeOf231 rfl (bf 0 underlying231 rfl sizeOf180 rfl (dA underlying180 rfl (HU).get.2 rfl (aU (eY ((HU.f2).aJ) underlying180 rfl) (aU (je rfl rfl (by omega)) (aW rfl (aB (aj (ay (ah (aP rfl (bT rfl (bf 0 underlying233 rfl sizeOf231 rfl (bf 0 underlying231 rfl sizeOf180 rfl (dA underlying180 rfl (HU).get.2 rfl (aP rfl ?_))))))))))))))))))
  obtain ⟨bgv, ogv, cgv, egv⟩ := Rd.kN ((HU.f2).aJ) (by omega)
  cases egv
  refine aU (bV underlying180 sizeOf67 rfl rfl (by omega)) ?_
  refine aU (dB (bG underlying67 rfl) rfl (by first | exact Rd.oV ((HU.f2).aJ) (by omega) | exact Rd.CQ ((HU.f2).aJ) (by omega) | exact Rd.BH ((HU.f2).aJ) (by omega))) ?_
  rw [show (hs.map (·.1) ++ [gl]).getD ((((hs.length + 1 : Nat)) : Int) - 1).toNat undef = gl from by rw [show ((((hs.length + 1 : Nat)) : Int) - 1).toNat = hs.length from by omega]; simp [List.getD_eq_getElem?_getD]]
  refine aW rfl (aB (aj (ay (ah (aP rfl (aP rfl (bT rfl (bf 0 underlying233 rfl sizeOf231 rfl (bf 0 underlying231 rfl sizeOf180 rfl (dA underlying180 rfl (HU).get.2 rfl (aP rfl (aU (uH ((HU.f2).aJ) underlying180 sizeOf67 rfl rfl rfl (by omega)) (bT rfl (bf 0 underlying233 rfl sizeOf231 rfl (bf 0 underlying231 rfl sizeOf180 rfl (aI (aS 0 (l' := [_, _, _, _, _]) HU sizeOf180 rfl rfl (by first | rfl | exact Rd.one (Rd.Vs ((HU.f2).aJ) (by omega))) rfl rfl) ?_))))))))))))))))
  rintro _ w10 qK
  refine aB (aj (ay (ah (aP rfl (bT rfl (bf 0 underlying233 rfl sizeOf231 rfl (bf 3 underlying231 rfl sizeOf3 rfl (dA underlying3 rfl (qK).get.2 rfl (aP rfl (aU (eY ((qK.f4).yP) underlying67 rfl) (aU (je rfl rfl (by omega)) (bT rfl (bf 0 underlying233 rfl sizeOf231 rfl (bf 3 underlying231 rfl sizeOf3 rfl (aI (aS 3 (l' := [_, _, _, _, _]) qK sizeOf3 rfl rfl (by first | rfl | assumption) rfl rfl) ?_)))))))))))))))
  rintro _ IV vK
  refine aB (aj (ay (ah (aP rfl (dD rfl func167 (zS vK.f4 hEB hl3) ?_)))))
  rintro Xv w12 ⟨Rw, Vw, vM⟩
  refine aW rfl (aW rfl (aB (aj (aN (gQ (.inl rfl) results131 rfl rfl ?_)))))
  simp only [if_neg ZL]
  have hdl : (jr G N).dropLast = hs.map (fun g => g.2.map dw.says) := by rw [hG]; simp
  have hlast : (jr G N).getLastD [] = wC.map dw.says := by rw [hG]; simp
  have hX := (vM.f3.right.f6.f6.f5.f5.f5.f6).Jc (h := hs.length) (by omega)
  rw [hdl, hlast]
  rw [Nat.mul_one, List.take_left' (by simp), show (((hs.length + 1 : Nat) : Int) - 1).toNat = hs.length from by omega, show Int.toNat 0 = 0 from rfl] at hX
  have hT : fB (jr G N) [] = fB (hs.map (fun g => g.2.map dw.says)) [] + wC.length := by rw [hG, Gh, List.length_map]
  have hok2 : UE (hs.map (fun g => g.2.map dw.says)) [] 0 := ⟨fun g hg => hok.1 g (by rw [hG]; exact List.mem_append_left _ hg), by omega, by decide, by decide, fun g hg => hok.2.2.2.2.1 g (by rw [hG]; exact List.mem_append_left _ hg), by simp⟩
  refine ⟨_, _, rfl, (by assumption), ?_⟩
  have hU := aA.qj (gv := nV 1 0 hs.length (.slice (some ⟨bgv, ogv, none⟩) (hs.length + 1) cgv)) (nv := nv) (gs := hs) (now := []) (ed := (fB (jr G N) [] : Nat) - (wC.length : Int)) (F := Row 202 3 Xv Rw.length (Rw.flatMap dw.enc) • jq Rw • F) hok2 rfl rfl (by omega) (hX.of_eq (by unfold zH; ac_rfl))
  exact hU.of_eq (by ac_rfl)
end
end Go.Proofs.YtddekefihgejoaaGreatDoor
end
section
namespace Go.Proofs.YtddekefihgejoaaGreatDoor
open Go.RowKit
open _root_.Go.Proofs.Tryz
def Bd (op : Int) : Int := if op = 0 then 1 else 0
def WA (G : List (List fG)) (N : List fG) (op : Int) : List (List fG) := if op = 1 then jr G N else G
def WB (N : List fG) (op : Int) : List fG := if op = 1 then [] else N
def UG (op : Int) : Int := if op = 0 then 0 else op - 1
theorem Pm {es : List dw} {k : Nat} (hk : k < es.length) : (es.take (k + 1)).map dw.says = (es.take k).map dw.says ++ [(es.getD k default).says] := by
  rw [List.take_succ_eq_append_getElem hk, List.map_append, List.getD_eq_getElem?_getD, List.getElem?_eq_getElem hk]
  rfl
section
variable {w0 w : World} {F : HP} {p : Nat} {G : List (List fG)} {N : List fG} {op : Int} {gv nv v : Value} {gs : List (Value × List dw)} {now es : List dw} {a : Int} {d z : Value} {dl il : List Int}
theorem wE (H : aA w0 w (eF p G N op • F)) : fQ prog 134 #[.pointer (some ⟨p, 0, none⟩)] w fun v w' => v = .int .i64 (Bd op) ∧ aA w0 w' (eF p (WA G N op) (WB N op) (UG op) • F) := by
 unfold Bd WA WB UG
 refine iw func134 ntmps134 ?_
 dsimp only [aZ, Nat.reduceAdd]
 refine ay (ah (aW rfl (aB (aj (ay (ay (ah (aP rfl (dD rfl func161 (iO H) ?_)))))))))
 rintro _ _ ⟨rfl, rfl⟩
 refine aB (aj (pW (aQ (aj (ay (ay ?_))))))
 obtain ⟨wU, uj, jJ, jh, iR, o7, mY, Ba, Bc, FC, kT⟩ := (H).qO
 have hop := iR.2.2.1
 have hop2 := iR.2.2.2.1
 refine ah (aP rfl (bT rfl (bf 0 underlying233 rfl sizeOf231 rfl (bf 2 underlying231 rfl sizeOf3 rfl (dA underlying3 rfl (kT).get.2 rfl (aU (iQ rfl rfl) (aB (aj (aO rfl (fun h1 => ?_) (fun h1 => ?_))))))))))
 ·(try simp only [aG] at h1)
  have h0 : op = 0 := by omega
  refine ay (ah (aW rfl (aB (aj (aN (aK (aT (.inl rfl) results134 rfl ?_)))))))
  have Js := kT.f5.f5.f5.f5.f5
  have Jt := aA.jB iR o7 mY rfl Js
  subst h0
  exact ⟨rfl, Jt⟩
 ·(try simp only [aG] at h1)
  have h0 : ¬ op = 0 := by omega
  refine aQ (aj (ay (ay (ah (aP rfl (bT rfl (bf 0 underlying233 rfl sizeOf231 rfl (bf 2 underlying231 rfl sizeOf3 rfl (dA underlying3 rfl (kT).get.2 rfl (aU (je rfl rfl (by omega)) (bT rfl (bf 0 underlying233 rfl sizeOf231 rfl (bf 2 underlying231 rfl sizeOf3 rfl (aI (aS 2 (l' := [_, _, _, _, _]) kT sizeOf3 rfl rfl (by first | rfl | assumption) rfl rfl) ?_))))))))))))))
  rintro _ w6 H6
  refine aB (aj (ay (ah (aP rfl (bT rfl (bf 0 underlying233 rfl sizeOf231 rfl (bf 2 underlying231 rfl sizeOf3 rfl (dA underlying3 rfl (H6).get.2 rfl (aU (iQ rfl rfl) (aB (aj (aO rfl (fun h2 => ?_) (fun h2 => ?_)))))))))))))
  ·(try simp only [aG] at h2)
   have h1 : op = 1 := by omega
   have Ru := H6.f5.f5.f5.f5.f5
   have Pj := aA.jB (op := op - 1) ⟨iR.1, iR.2.1, by omega, by omega, iR.2.2.2.2⟩ o7 mY rfl Ru
   refine ah (aP rfl (dD rfl func166 (xA Pj) ?_))
   rintro _ w9 H9
   refine aB (aj (ay (ah (aW rfl (aB (aj (aN (aT (.inl rfl) results134 rfl ?_))))))))
   subst h1
   exact ⟨rfl, H9⟩
  ·(try simp only [aG] at h2)
   have h1 : ¬ op = 1 := by omega
   refine aQ (aj (ay (ah (aW rfl (aB (aj (aN (aT (.inl rfl) results134 rfl ?_))))))))
   rw [if_neg h0, if_neg h1, if_neg h1, if_neg h0]
   exact ⟨rfl, aA.jB ⟨iR.1, iR.2.1, by omega, by omega, iR.2.2.2.2⟩ o7 mY rfl H6.f5.f5.f5.f5.f5⟩
theorem En (H : aA w0 w F) (hv : Aq w0 F 3 v es.length (es.flatMap dw.enc)) (he : ∀ k, k < es.length → gV w0 F .i32 (es.getD k default).d (es.getD k default).dl ∧ gV w0 F .i32 (es.getD k default).i (es.getD k default).il)
  (hB : ∀ k, k < es.length → EB (es.getD k default).says) (hL : es.length ≤ 16384) :
  fQ prog 162 #[v] w fun v' w' => ∃ fs : List dw, fs.map dw.says = es.map dw.says ∧ aA w0 w' (Row 202 3 v' fs.length (fs.flatMap dw.enc) • jq fs • F) := by
 refine iw func162 ntmps162 ?_
 dsimp only [aZ, Nat.reduceAdd]
 refine ay (ah (aW rfl (aB (aj (ay (ah (aW rfl (aB (aj (ay (ay (ah (aP rfl (aU (eY (hv _ (H)) underlying67 rfl) (aP rfl (aB (aj (aY ?_))))))))))))))))))
 refine eP [(6, _), (7, _)] (fun (⟨k, u⟩ : Nat × Value) => [(3, u), (8, .int .i64 (k : Int))]) (fun (⟨k, u⟩ : Nat × Value) W => k ≤ es.length ∧ ∃ fs : List dw, fs.map dw.says = (es.take k).map dw.says ∧ aA w0 W (Row 202 3 u fs.length (fs.flatMap dw.enc) • jq fs • F)) (fun (⟨k, u⟩ : Nat × Value) => es.length - k) ((0, .slice none 0 0)) (Sub.cons rfl (Sub.cons rfl (Sub.nil _))) (Sub.cons rfl (Sub.cons rfl (Sub.nil _))) ⟨by omega, [], rfl, (H.pI none).XB⟩ ?_
 rintro ⟨k, u⟩ w1 ⟨hk, fs, hfs, HL⟩
 dsimp only [List.cons_append, List.nil_append]
 refine ay (ah (aU (dV rfl rfl) (aB (aj (ay (aO rfl (fun h1 => ?_) (fun h1 => ?_)))))))
 ·(try simp only [aG] at h1)
  try (exfalso; first | contradiction | omega)
  all_goals
   refine aQ (aj (ay (aY (ay (ah ?_)))))
   obtain ⟨bv, ov, cv, ev⟩ := Rd.kN (hv _ (HL.right.right)) (by omega)
   cases ev
   refine aU (bV underlying67 sizeOf202 rfl rfl (by omega)) (aU (iG (ys := [_, _, _]) (hv _ (HL.right.right)) (by omega) underlying202 rfl sizeOf202 rfl (jw dw.zF (by omega) default) rfl) ?_)
   have hkl : k < es.length := by omega
   obtain ⟨f1, f2⟩ := he k hkl
   obtain ⟨hb1, hb2⟩ := hB k hkl
   have hb1 : (es.getD k default).dl.length ≤ 35184372087808 := hb1
   have hb2 : (es.getD k default).il.length ≤ 35184372087808 := hb2
   have hfl : fs.length = k := by have h9 := congrArg List.length hfs; simp at h9; omega
   refine gB (bW (l := [_, _, _]) HL zeroValue202 rfl) ?_
   rintro _ w2 ⟨b2, rfl, H2⟩
   refine aI (bC 0 (l' := [_, _, _]) (us := [_, _, _]) H2 sizeOf202 rfl rfl rfl (aC (by first | rfl | assumption) (aC (by first | rfl | exact Rd.one (f1 _ (H2.right.right.right))) (aC (by first | rfl | exact Rd.one (f2 _ (H2.right.right.right))) bg))) rfl rfl) ?_
   rintro _ w3 H3
   refine aB (aj (ah (aP rfl (aU (bQ underlying202 rfl sizeOf202 rfl rfl (H3).get.2) (dD rfl func168 (qV H3 (fun W HW => f1 _ (HW.right.right.right)) (fun W HW => f2 _ (HW.right.right.right)) (by omega) (by omega)) ?_)))))
   rintro _ w4 ⟨d4, s4, rfl, H4⟩
   refine gB (mP H4 underlying67 sizeOf202 zeroValue202 rfl rfl rfl (by decide) (by decide)) ?_
   rintro l5 w5 H5
   refine gB (fK H5.f5 underlying67 (show (prog.info? 202).map (fun i => (i.zero, i.size, i.bytes)) = some (some (.agg #[.int .i64 0, .slice none 0 0, .slice none 0 0]), 3, 56) by kernel_rfl) rfl rfl rfl ((H5).aJ) (aC (by first | rfl | assumption) (aC (by first | rfl | exact Rd.one ((H5.f2).aJ)) (aC (by first | rfl | exact Rd.one ((H5.f3).aJ)) bg))) (by omega) (by omega)) ?_
   rintro l6 w6 H6
   have Rx := H6.f2.right
   refine aW rfl (aB (aH (aj (ah (aU (dR rfl rfl (by omega)) (aP rfl (aB ?_)))))))
   refine bZ ((k + 1, l6)) ?_ ?_ ?_ ?_
   ·exact (Sub.cons rfl (Sub.cons rfl (Sub.nil _)))
   ·exact (Sub.cons rfl (Sub.cons rfl (Sub.nil _)))
   ·(try dsimp only)
    first | done | exact ⟨by omega, _, by rw [List.map_append, hfs, Pm (by omega)]; rfl, (aA.uP (Rx.f4.right.f4.f2.f4.f4).jE.swap.jE.swap.f3).XB⟩
   ·(try dsimp only); omega
 ·(try simp only [aG] at h1)
  try (exfalso; first | contradiction | omega)
  all_goals
   refine dK (aV (aV (bD (aj (ay (ah (aP rfl (aW rfl (aB (aj (aN (aT (.inl rfl) results162 rfl ?_))))))))))))
   rw [List.take_of_length_le (by omega)] at hfs
   exact ⟨_, hfs, HL.f2.f2⟩
theorem aA.kR {es : List dw} (H : aA w0 w (jq es • F)) {k : Nat} (hk : k < es.length) : iI w .i32 (es.getD k default).d (es.getD k default).dl ∧ iI w .i32 (es.getD k default).i (es.getD k default).il := let ⟨I, h, hI⟩ := H.qU; ⟨(h k hk).1.rd hI, (h k hk).2.rd hI⟩
theorem xB (H : aA w0 w (Row 202 3 v es.length (es.flatMap dw.enc) • jq es • F)) (hB : ∀ k, k < es.length → EB (es.getD k default).says) (hL : es.length ≤ 16384) :
    fQ prog 162 #[v] w fun v' w' => ∃ fs : List dw, fs.map dw.says = es.map dw.says ∧ aA w0 w' (Row 202 3 v' fs.length (fs.flatMap dw.enc) • jq fs • Row 202 3 v es.length (es.flatMap dw.enc) • jq es • F) :=
  En H (fun W HW => HW.aJ) (fun k hk => ⟨fun W HW => (HW.right.kR hk).1, fun W HW => (HW.right.kR hk).2⟩) hB hL
theorem um (H : aA w0 w (Ar v es • F)) (hB : ∀ k, k < es.length → EB (es.getD k default).says) (hL : es.length ≤ 16384) :
    fQ prog 162 #[v] w fun v' w' => ∃ fs : List dw, fs.map dw.says = es.map dw.says ∧ aA w0 w' (Row 202 3 v' fs.length (fs.flatMap dw.enc) • jq fs • Ar v es • F) :=
  En H (fun W HW => HW.yP) (fun k hk => ⟨fun W HW => HW.X8 hk, fun W HW => HW.X9 hk⟩) hB hL
end
end Go.Proofs.YtddekefihgejoaaGreatDoor
end
section
namespace Go.Proofs.YtddekefihgejoaaGreatDoor
open Go.RowKit
open _root_.Go.Proofs.Tryz
def acH (G : List (List fG)) (N : List fG) : List fG := (jr G N).flatten.reverse.map Em
section
variable {w0 w : World} {F : HP} {p : Nat} {G : List (List fG)} {N : List fG} {op : Int} {gv nv v u : Value} {gs : List (Value × List dw)} {now es fs : List dw} {a : Int} {d z : Value} {dl il : List Int}
theorem Eo (H : aA w0 w (eF p G N op • F)) : fQ prog 138 #[.pointer (some ⟨p, 0, none⟩)] w fun _ w' => aA w0 w' (eF p [] [] 0 • F) := by
 refine iw func138 ntmps138 ?_
 dsimp only [aZ, Nat.reduceAdd]
 refine ay (ah (aP rfl (dD rfl func161 (iO H) ?_)))
 rintro _ _ ⟨rfl, rfl⟩
 refine aU (jT rfl) (aB (aj (aO rfl (fun h1 => ?_) (fun h => by exfalso; (try simp only [aG] at h); simp at h))))
 (try simp only [aG] at h1)
 obtain ⟨wU, uj, jJ, jh, iR, o7, mY, Ba, Bc, FC, kT⟩ := (H).qO
 refine ah (aP rfl (aU (fJ (pl := #[(0, 4), (4, 1)]) (#[_, _, _, _, _]) underlying233 zeroValue233 (fun w => by kernel_rfl) rfl (rfl)) (bT rfl (aI (bC 0 (l' := [_, _, _, _, _]) (us := [_, _, _, _, _]) kT sizeOf233 rfl rfl rfl (aC (by first | rfl | assumption) (aC (by first | rfl | assumption) (aC (by first | rfl | assumption) (aC (by first | rfl | assumption) (aC (by first | rfl | assumption) bg))))) rfl rfl) ?_))))
 rintro _ w3 H3
 refine aB (gq (.inr rfl) results138 ?_)
 refine aA.qj (gv := .slice none 0 0) (nv := .slice none 0 0) (gs := []) (now := []) ⟨by simp, by decide, by decide, by decide, by simp, by simp⟩ rfl rfl rfl ?_
 exact (((H3.f2.right.f2.right.f2.right.f2.right).pI none).zI none).of_eq (by ac_rfl)
theorem aA.Ic (H : aA w0 w (nZ gs • F)) {k : Nat} {gl : Value} {wC : List dw} (hk : k < gs.length) (hg : gs.getD k default = (gl, wC)) : aA w0 w (Ar gl wC • nZ gs • F) := by
  have := H.Jq hk
  rwa [hg] at this
end
end Go.Proofs.YtddekefihgejoaaGreatDoor
end
section
namespace Go.Proofs.YtddekefihgejoaaGreatDoor
open Go.RowKit
open _root_.Go.Proofs.Tryz
theorem Pn {G : List (List fG)} {k : Nat} (hk : k < G.length) : G.take (k + 1) = G.take k ++ [G.getD k []] := by
  rw [List.take_succ_eq_append_getElem hk, List.getD_eq_getElem?_getD, List.getElem?_eq_getElem hk]
  rfl
theorem Ie {G : List (List fG)} {g : List fG} (h : g ∈ G) : g.length ≤ (G.map List.length).sum := by
  induction G with
  | nil => cases h
  | cons x G ih =>
    rw [List.map_cons, List.sum_cons]
    rcases List.mem_cons.1 h with rfl | h
    · omega
    · have := ih h; omega
theorem JL {es : List dw} {l : List fG} (h : es.map dw.says = l) (hl : ∀ e ∈ l, EB e) : ∀ k, k < es.length → EB (es.getD k default).says := fun k hk =>
  hl _ (by rw [← h]; exact List.mem_map_of_mem (uM hk))
section
variable {w0 w : World} {F : HP} {p : Nat} {G : List (List fG)} {N : List fG} {op : Int}
theorem Ep (H : aA w0 w (eF p G N op • F)) : fQ prog 126 #[.pointer (some ⟨p, 0, none⟩)] w fun v w' => ∃ q, v = .pointer (some ⟨q, 0, none⟩) ∧ aA w0 w' (eF q G N op • eF p G N op • F) := by
 refine iw func126 ntmps126 ?_
 dsimp only [aZ, Nat.reduceAdd]
 refine ay (ah (aW rfl (aB (aj (ay (ay (ah (aP rfl (dD rfl func161 (iO H) ?_)))))))))
 rintro _ _ ⟨rfl, rfl⟩
 refine aB (aj (pW (aQ (aj (ay ?_)))))
 obtain ⟨wU, uj, jJ, jh, iR, o7, mY, Ba, Bc, FC, kT⟩ := (H).qO
 have hLn : jh.length ≤ 16384 := by omega
 have hBn := JL mY iR.2.2.2.2.2
 refine ah (aP rfl (bT rfl (aU (bQ underlying233 rfl sizeOf233 rfl rfl (kT).get.2) (gB (bW (l := [_, _, _, _, _]) kT zeroValue233 rfl) ?_))))
 rintro _ w3 ⟨b3, rfl, H3⟩
 refine aI (bC 0 (l' := [_, _, _, _, _]) (us := [_, _, _, _, _]) H3 sizeOf233 rfl rfl rfl (aC (by first | rfl | exact Rd.one ((H3.f3).aJ)) (aC (by first | rfl | exact Rd.one ((H3.f5).aJ)) (aC (by first | rfl | assumption) (aC (by first | rfl | assumption) (aC (by first | rfl | assumption) bg))))) rfl rfl) ?_
 rintro _ w4 H4
 refine aB (aj (ay (ah (aP rfl (bT rfl (bf 0 underlying233 rfl sizeOf231 rfl (bf 1 underlying231 rfl sizeOf67 rfl (dA underlying67 rfl (H4.f2).get.2 rfl (dD rfl func162 (xB H4.f6.f6 hBn hLn) ?_)))))))))
 rintro u5 w5 ⟨fs5, aao, H5⟩
 obtain ⟨es1, rfl⟩ : ∃ q, q = fs5 := ⟨_, rfl⟩
 have hes1 := aao
 refine bf 0 underlying233 rfl sizeOf231 rfl (bf 0 underlying231 rfl sizeOf180 rfl (aI (aS 0 (l' := [_, _, _, _, _]) H5.f5 sizeOf180 rfl rfl (by first | rfl | assumption) rfl rfl) ?_))
 rintro _ w6 H6
 refine bf 0 underlying233 rfl sizeOf231 rfl (bf 1 underlying231 rfl sizeOf67 rfl (aI (aS 1 (l' := [_, _, _, _, _]) H6 sizeOf67 rfl rfl (by first | rfl | exact Rd.one ((H6.f2).aJ)) rfl rfl) ?_))
 rintro _ w7 H7
 refine aB (aj (ay (ay (ah (aP rfl (bT rfl (bf 0 underlying233 rfl sizeOf231 rfl (bf 0 underlying231 rfl sizeOf180 rfl (dA underlying180 rfl (H7.f6).get.2 rfl (aU (eY ((H7.f7).aJ) underlying180 rfl) (aP rfl (aB (aj (aY ?_))))))))))))))
 obtain ⟨Vx, Vy, YB, -⟩ := ((H7.f7).aJ).form
 subst YB
 refine eP [(3, _), (25, _), (26, _)] (fun (k : Nat) => [(27, .int .i64 (k : Int))]) (fun (k : Nat) W => k ≤ jJ.length ∧ ∃ gu, ∃ hs : List (Value × List dw), hs.map (fun g => g.2.map dw.says) = G.take k ∧ aA w0 W (cO b3 (.cells #[gu, u5, .int .i64 op, .int .i64 (fB G N : Nat), .bool true] 233 (0, 0)) • Row 67 1 gu hs.length (hs.map (·.1)) • nZ hs • Row 202 3 u5 es1.length (es1.flatMap dw.enc) • jq es1 • cO p (.cells #[(.slice Vx (jJ.length) Vy), uj, .int .i64 op, .int .i64 (fB G N : Nat), .bool true] 233 (0, 0)) • Row 67 1 (.slice Vx (jJ.length) Vy) jJ.length (jJ.map (·.1)) • nZ jJ • Row 202 3 uj jh.length (jh.flatMap dw.enc) • jq jh • F)) (fun (k : Nat) => jJ.length - k) (0) (Sub.cons rfl (Sub.cons rfl (Sub.cons rfl (Sub.nil _)))) (Sub.cons rfl (Sub.nil _)) ⟨by omega, _, [], rfl, ((H7.f5.f5.f8.f8.f8.f6.f8.f8).zI none).Wh.f5⟩ ?_
 rintro k w9 ⟨hk, gu, hs, Po, HL⟩
 dsimp only [List.cons_append, List.nil_append]
 refine ay (ah (aU (dV rfl rfl) (aB (aj (ay (aO rfl (fun h1 => ?_) (fun h1 => ?_)))))))
 ·(try simp only [aG] at h1)
  refine aQ (aj (ay (aY (ay (ah ?_)))))
  obtain ⟨abX, abY, rfl⟩ := Rd.pos ((HL.f7).aJ) (by omega)
  refine aU (bV underlying180 sizeOf67 rfl rfl (by omega)) ?_
  refine aU (dB (bG underlying67 rfl) rfl (by first | exact Rd.oV ((HL.f7).aJ) (by omega) | exact Rd.CQ ((HL.f7).aJ) (by omega) | exact Rd.BH ((HL.f7).aJ) (by omega))) ?_
  have hkl : k < jJ.length := by omega
  rw [show (jJ.map (·.1)).getD k undef = (jJ.getD k default).1 from by simp [List.getD_eq_getElem?_getD, hkl]]
  obtain ⟨gl, wC, hg⟩ : ∃ gl wC, jJ.getD k default = (gl, wC) := ⟨_, _, rfl⟩
  rw [hg]
  have Ry := HL.f8
  have Rz := Ry.Ic hkl hg
  have hge : wC.map dw.says = G.getD k [] := by
   rw [← o7]
   have h9 : (jJ.map (fun g => g.2.map dw.says)).getD k [] = (jJ.getD k default).2.map dw.says := by simp [List.getD_eq_getElem?_getD, hkl]
   rw [h9, hg]
  have hgm : G.getD k [] ∈ G := uM (by omega)
  have hBg := JL hge (iR.2.2.2.2.1 _ hgm)
  have YC : wC.length ≤ 16384 := by
   have h8 := iR.2.1
   unfold fB at h8
   have h7 := congrArg List.length hge
   rw [List.length_map] at h7
   have h6 := Ie hgm
   omega
  have hhl := congrArg List.length Po
  rw [List.length_map, List.length_take] at hhl
  refine aW rfl (aB (aj ?_))
  have Vz := Rz.drew
  have Es := aA.kp (Vz.f11.f11.f11.f11.f11.f11.f11.f11.f11.f11.f11)
  refine vJ [2] Es rfl (dU 0 rfl Es 0 underlying233 rfl sizeOf231 rfl (dU 1 rfl Es 0 underlying231 rfl sizeOf180 rfl (gG 2 rfl Es (fun W hW => iF underlying180 rfl ((Kp.h hW).f3).get.2 rfl) (fU 3 rfl Es rfl (jm 4 rfl (rX rfl func162 (um Vz hBg YC)) ?_)))))
  rintro Xv w12 ⟨Rw, Vw, vM⟩
  obtain ⟨es2, rfl⟩ : ∃ q, q = Rw := ⟨_, rfl⟩
  have hes2 := Vw
  have zN := aA.kp (vM.f13.f13.f13.f13.f13.f13.f13.f13.f13.f13.f13.f13.f13)
  refine bU zN (fun W hW => (Kp.h hW).right.right.f11.f11.f11.f11.f11.f11.f11.f11.f11.f11.f11) ?_
  refine jm 5 rfl (jv (vs := [_]) vM underlying180 sizeOf67 zeroValue67 rfl rfl rfl (by decide) (aC (by first | rfl | exact Rd.one ((vM).aJ)) bg)) ?_
  rintro l13 OY xq
  have Ei := aA.kp (xq.f14.f14.f14.f14.f14.f14.f14.f14.f14.f14.f14.f14.f14.f14)
  refine bU Ei (fun W hW => (Kp.h hW).right.f13.f13.f13.f13.f13.f13.f13.f13.f13.f13.f13.f13.f13) ?_
  refine jm 6 rfl (fK xq.f7 underlying180 (show (prog.info? 67).map (fun i => (i.zero, i.size, i.bytes)) = some (some (.slice none 0 0), 1, 24) by kernel_rfl) rfl rfl rfl ((xq).aJ) (aC (by first | rfl | exact Rd.one ((xq.f2).aJ)) bg) (by omega) (by omega)) ?_
  rintro l14 OZ yR
  have WE := yR.f2.right
  have wR := aA.kp (WE.f13.f13.f13.f13.f13.f13.f13.f13.f13.f13.f13.f13.f13)
  refine dS wR (by kernel_rfl) ?_
  refine dU 7 rfl wR 0 underlying233 rfl sizeOf231 rfl (dU 8 rfl wR 0 underlying231 rfl sizeOf180 rfl ?_)
  refine dO 9 rfl (by kernel_rfl) (aS 0 (l' := [_, _, _, _, _]) WE.f6 sizeOf180 rfl rfl (by first | rfl | exact Rd.one ((WE).aJ)) rfl rfl) ?_
  rintro _ w16 sW
  have zT := aA.kp (sW.f13.f13.f13.f13.f13.f13.f13.f13.f13.f13.f13.f13.f13)
  refine dS zT (by kernel_rfl) ?_
  have X := aA.sJ (es := es2) (sW.f5.right.f12.f12.f7.f12.f12.f12.f12.f8.f12.f10.f12.f12).deep
  have HN := (aA.uQ X.swap).Wh.f3
  have hnew : (hs ++ [(Xv, es2)]).map (fun g => g.2.map dw.says) = G.take (k + 1) := by rw [List.map_append, Po, Pn (by omega), ← hge, ← hes2]; rfl
  refine mD (aH (aj (ah (aU (dR rfl rfl (by omega)) (aP rfl (aB ?_))))))
  refine bZ (k + 1) ?_ ?_ ?_ ?_
  ·exact (Sub.cons rfl (Sub.nil _))
  ·exact (Sub.cons rfl (Sub.cons rfl (Sub.cons rfl (Sub.nil _))))
  ·(try dsimp only)
   first | done | exact ⟨by omega, _, _, hnew, HN⟩
  ·(try dsimp only); omega
 ·(try simp only [aG] at h1)
  refine dK (aV (aV (bD (aj (ay (ah (aW rfl (aB (aj (aN (aT (.inl rfl) results126 rfl ?_)))))))))))
  rw [List.take_of_length_le (by omega)] at Po
  have X := aA.jB (gs := hs) (now := es1) iR Po (hes1.trans mY) rfl (HL.f10.f10.f10.f10.f10.f10.f10.f10.f10.f10)
  have Y := aA.jB iR o7 mY rfl X.f6.f6.f6.f6.f6
  exact ⟨_, rfl, Y.swap⟩
end
end Go.Proofs.YtddekefihgejoaaGreatDoor
end
section
namespace Go.Proofs.YtddekefihgejoaaGreatDoor
open Go.RowKit
def yT (G : List (List fG)) (N : List fG) : List (List fG) := (jr G N).reverse
def Ig (N : List fG) : List (List fG) := if N = [] then [] else [N]
theorem RD (N : List fG) : (Ig N).length ≤ 1 := by unfold Ig; split <;> simp
theorem UH (G : List (List fG)) (N : List fG) : yT G N = Ig N ++ G.reverse := by
  unfold yT Ig jr; split <;> simp
end Go.Proofs.YtddekefihgejoaaGreatDoor
end
section
namespace Go.Proofs.YtddekefihgejoaaGreatDoor
open Go.RowKit
def uo {β : Type} (f : Int → β) (a : Int) (v : β) : Int → β := fun x => if x = a then v else f x
theorem iL {β : Type} (f : Int → β) (a : Int) (v : β) : uo f a v a = v := if_pos rfl
theorem sO {β : Type} (f : Int → β) {a x : Int} (v : β) (h : x ≠ a) : uo f a v x = f x := if_neg h
theorem UJ {β : Type} (f : Int → β) (a : Int) : uo f a (f a) = f := by funext x; unfold uo; split <;> simp_all
structure lV where
  L : List Int
  pt : Int
  mark : Int
  E : List (List Int)
  at_ : Nat
  place : Int
  tx : Int → Option ByteArray
  un : Int → List (List fG)
  mode : Int
  over : Bool
  last : Int
  fr : Int
  to : Int
  res : Int
  run : Bool
structure bH where
  c : lV
  hl : List lg
  base : Int
  most : Int
  ql : Int
  given : Bool
  minus : Bool
  arg : Int
  inn : Bool
  was : lV
  cls : Int
  killed : Bool
  mM : Bool
  argues : Bool
  whole : Bool
  put : List fG
def Mc (hl : List lg) (k : Int) : lg := if 0 ≤ k ∧ k < hl.length then hl.getD k.toNat default else (.empty, 0)
def tK (hl : List lg) (k : Int) : ByteArray := (Mc hl k).1
def fE (hl : List lg) (tx : Int → Option ByteArray) (k : Int) : ByteArray := (tx k).getD (tK hl k)
def pO (hl : List lg) (tx : Int → Option ByteArray) (place : Int) (k : Nat) : Bool := decide ((k : Int) ≠ place) && !((fE hl tx k).toList == (tK hl k).toList)
def jM (hl : List lg) (tx : Int → Option ByteArray) (place : Int) (n : Nat) : List (Int × ByteArray) := ((List.range n).filter (pO hl tx place)).map fun (k : Nat) => ((k : Int), fE hl tx k)
def lG (hl : List lg) (tx : Int → Option ByteArray) (place : Int) : List (Int × ByteArray) := jM hl tx place hl.length ++ (if place ≠ hl.length then [((hl.length : Int), fE hl tx hl.length)] else [])
def lW (G : List (List fG)) (inn : Bool) (put : List fG) (typed run : Bool) : Int := (G.length : Int) + if inn && !put.isEmpty && !(typed && run) then 1 else 0
namespace bH
variable (s : bH)
def here : List (List fG) := s.c.un s.c.place
def oz (G : List (List fG)) : bH := { s with c := { s.c with un := uo s.c.un s.c.place G } }
def uU : Int := if s.inn then 0 else 1
def sQ : Int := if s.inn then 1 else 0
def iq : bH := if s.inn then s else { s with inn := true, was := s.c, cls := 0, killed := false, mM := false, argues := false, whole := true, put := [] }
def jW (on : Bool) : List (List fG) := if s.put = [] then s.here else if on then (match s.here.getLast? with | some g => s.here.dropLast ++ [g ++ s.put] | none => [s.put]) else s.here ++ [s.put]
def dF (on : Bool) : bH := if s.put = [] then s else { s.oz (s.jW on) with put := [] }
def zU : bH := { s with given := false, minus := false, arg := -1 }
def Bd (err : Int) : Int := if s.inn then err else 1
def yU : bH := { s.zU with inn := false, c := { s.was with last := 0, fr := 0, to := 0 }, ql := IntKind.i64.wrap (s.ql + 1), put := [] }
def typed : Bool := s.cls == 3 && s.whole
def gX : bH := { (if s.argues then s else s.zU) with inn := false }
def lH : bH :=
  let t := s.gX.dF (s.typed && s.c.run)
  let c := { t.c with run := s.typed && (!s.put.isEmpty || s.c.run), last := s.cls }
  { t with c := if s.cls ≠ 2 then { c with fr := 0, to := 0 } else c }
def oC (err : Int) : bH := if s.inn then (if err = 0 then s.lH else s.yU) else s
def yF (x : fG) : bH :=
  if x.2.1.length + x.2.2.length = 0 then s else
  if 16384 ≤ fB s.here s.put then { s.oz [] with put := [x], c := { (s.oz []).c with run := false } } else { s with put := s.put ++ [x] }
def jS (L : List Int) (pt mk : Int) : bH := { s with c := { s.c with L := L, pt := pt, mark := mk } }
def o8 (i j : Int) (l : List Int) : Int := if s.inn then kQ s.c.L i j l else 1
def tN (i j : Int) (l : List Int) : bH := if s.inn then (s.jS (qL s.c.L i j l) (qM s.c.L s.c.pt i j l) (qN s.c.L s.c.mark i j l)).yF (qg s.c.L i j l, kD s.c.L i j l, kE s.c.L i j l) else s
def RF (l : List Int) : Int := s.o8 s.c.pt s.c.pt l
def Pq (l : List Int) : bH := s.tN s.c.pt s.c.pt l
def Bf (l : List Int) : Int := if s.c.over then min (s.c.pt + l.length) s.c.L.length else s.c.pt
def RG (l : List Int) : Int := s.o8 s.c.pt (s.Bf l) l
def yG (l : List Int) : bH := if s.inn then (let t := s.tN s.c.pt (s.Bf l) l; if s.RG l = 0 ∧ s.cls = 0 then { t with cls := 3 } else t) else s
def way (back : Bool) : Int := if s.c.last = 1 ∨ s.killed = true then (if back then 2 else 1) else 0
def Ih (i j : Int) : Prop := i < 0 ∨ s.c.L.length < i ∨ j < i ∨ s.c.L.length < j
instance (i j : Int) : Decidable (s.Ih i j) := by unfold Ih; infer_instance
def cut (i j : Int) : List Int := (s.c.L.drop i.toNat).take (j.toNat - i.toNat)
def RH (i j : Int) (back : Bool) : Int × List (List Int) × Nat := Yr s.c.E s.c.at_ (s.way back) (s.cut i j)
def NR (i j : Int) (back : Bool) : Int := if s.inn then (if s.Ih i j then 70 else (s.RH i j back).1) else 1
def UK (E : List (List Int)) (a : Nat) : bH := { s with c := { s.c with E := E, at_ := a } }
def VA (i j : Int) (back : Bool) : bH := if s.NR i j back = 0 then { s.UK (s.RH i j back).2.1 (s.RH i j back).2.2 with killed := true, cls := 1 } else s
def abZ (i j : Int) (back : Bool) : Int := if s.NR i j back = 0 then (s.VA i j back).o8 i j [] else s.NR i j back
def ab0 (i j : Int) (back : Bool) : bH := if s.NR i j back = 0 then (s.VA i j back).tN i j [] else s
def top : List Int := s.c.E.getD s.c.at_ []
def YD : Int := if s.inn then (if s.c.E.length = 0 then 6 else s.RF s.top) else 1
def ab1 : bH :=
  if s.YD = 0 then
    let t := s.Pq s.top
    { t with mM := true, cls := 2, c := { t.c with mark := smM t.c.L t.c.mark s.c.pt, fr := s.c.pt, to := s.c.pt + s.top.length } }
  else s
def WG (n : Int) : List Int := s.c.E.getD (AY s.c.E.length s.c.at_ n) []
def aap (n : Int) : Int := if s.inn then (if s.c.last ≠ 2 ∨ s.mM = true then 6 else if s.c.E.length = 0 then 6 else s.o8 s.c.fr s.c.to (s.WG n)) else 1
def acI (n : Int) : bH :=
  if s.aap n = 0 then
    let t := s.tN s.c.fr s.c.to (s.WG n)
    { t with mM := true, cls := 2, c := { t.c with E := s.c.E, at_ := AY s.c.E.length s.c.at_ n, fr := s.c.fr, to := s.c.fr + (s.WG n).length } }
  else s
def kills : List (List Int) := s.c.E.drop s.c.at_ ++ s.c.E.take s.c.at_
def Gi (x : Int) : Int := if s.inn then Yg s.c.L.length x else 1
def xC (x : Int) : bH := if s.inn then s.jS s.c.L (Vt s.c.L.length s.c.pt x) s.c.mark else s
def ab2 (x : Int) : Int := if s.inn then smE s.c.L x else 1
def ab3 (x : Int) : bH := if s.inn then s.jS s.c.L s.c.pt (smM s.c.L s.c.mark x) else s
def ab4 : Int := if s.inn then swE s.c.mark else 1
def ab5 : bH := if s.inn then s.jS s.c.L (swP s.c.pt s.c.mark) (swM s.c.pt s.c.mark) else s
def aaq (b : List Int × Int × Int) (x : fG) : List Int × Int × Int := (aaj b.1 x.1 x.2.1 x.2.2, aak b.1 b.2.1 x.1 x.2.1 x.2.2, aal b.1 b.2.2 x.1 x.2.1 x.2.2)
def apps (b : List Int × Int × Int) (l : List fG) : List Int × Int × Int := l.foldl aaq b
def VB (l : List fG) : bH := let b := apps (s.c.L, s.c.pt, s.c.mark) l; s.jS b.1 b.2.1 b.2.2
def NS : bH := { s with whole := false, c := { s.c with run := false } }
def ab6 : bH := if s.inn then (let t := s.dF false; if t.here = [] then t else ((t.oz t.here.dropLast).VB ((t.here.getLastD []).reverse.map Em)).NS) else s
def Rt : Int := if s.inn then (if (s.dF false).here = [] then 6 else 0) else 1
def acJ : bH := if s.inn then (let t := s.dF false; if t.here = [] then t else ((t.oz []).VB (t.here.flatten.reverse.map Em)).NS) else s
def WH (d : Int) : Int := if s.inn then (if d < 0 ∨ 9 < d then 1 else 0) else 1
def aar (d : Int) : bH := if s.WH d = 0 then { s with given := true, argues := true, arg := min (max s.arg 0 * 10 + d) 1000000 } else s
def acK : bH := if s.inn then { s with given := true, argues := true, minus := !s.minus } else s
def aas (n : Int) : Int := if s.inn then (if 1000000 < n ∨ n < -1000000 then 1 else 0) else 1
def acL (n : Int) : bH := if s.aas n = 0 then { s with given := true, argues := true, minus := decide (n < 0), arg := max n (-n) } else s
def count : Int := if s.given then (let n := if s.arg < 0 then 1 else s.arg; if s.minus then -n else n) else 1
def YE (m : Int) : Int := if s.inn then (if m < 0 ∨ 2 < m then 1 else 0) else 1
def ab7 (m : Int) : bH := if s.YE m = 0 then { s with c := { s.c with mode := m } } else s
def ab8 (b : Bool) : bH := if s.inn then { s with c := { s.c with over := b } } else s
def aat (r : Int) : Int := if s.inn then (if r < 1 ∨ 3 < r then 1 else 0) else 1
def acM (r : Int) : bH := if s.aat r = 0 then { s with c := { s.c with res := r } } else s
def first (k : Int) : ByteArray := tK s.hl k
def stands (k : Int) : ByteArray := (s.c.tx k).getD (s.first k)
def Md : Int := lW s.here s.inn s.put s.typed s.c.run
def saved : List (Int × ByteArray) := lG s.hl s.c.tx s.c.place
def NT : Int := if s.inn then s.was.last else s.c.last
def ZM : Int := if s.inn then s.was.fr else s.c.fr
def ZN : Int := if s.inn then s.was.to else s.c.to
end bH
def lV.fresh (l : List Int) (E : List (List Int)) (a : Nat) (place mode : Int) : lV := ⟨l, l.length, -1, E, a, place, fun _ => none, fun _ => [], mode, false, 0, 0, 0, 0, false⟩
def bH.start (s : bH) (hl : List lg) (base most : Int) (l : List Int) : bH := { s with c := lV.fresh l s.c.E s.c.at_ hl.length s.c.mode, hl := hl, base := base, most := most, given := false, minus := false, arg := -1 }
def bH.new (hl : List lg) (base most : Int) : bH :=
  let c := lV.fresh [] [] 0 hl.length 0
  { c := c, hl := hl, base := base, most := most, ql := 0, given := false, minus := false, arg := -1, inn := false, was := c, cls := 0, killed := false, mM := false, argues := false, whole := false, put := [] }
end Go.Proofs.YtddekefihgejoaaGreatDoor
end
