import Derived.Test.YtgndbccogcofjaaGreatDoorZ2
import Derived.Test.YtgndbccogcofjaaGreatDoorZ10
set_option linter.unusedSimpArgs false
set_option linter.unusedVariables false
/- Texts of mine, joined, their names in short: UList2 UList3 UList4 UList5 UList6 UList7 Grp0 Hist. -/
section
namespace Go.Proofs.YtgndbccogcofjaaGreatDoor
open Go.RowKit
open _root_.Go.Proofs.Tryz
def jc (G : List (List dX)) (N : List dX) : List (List dX) := if N = [] then G else G ++ [N]
theorem JQ {G : List (List dX)} {N : List dX} (h : N = []) : jc G N = G := by unfold jc; rw [if_pos h]
theorem lT {G : List (List dX)} {N : List dX} (h : N ≠ []) : jc G N = G ++ [N] := by unfold jc; rw [if_neg h]
theorem C9 {G : List (List dX)} {N : List dX} : dS (jc G N) [] = dS G N := by
  unfold jc; split
  · rename_i h; rw [h]
  · simp [dS]
section
variable {w0 w : World} {F : HP} {p : Nat} {G : List (List dX)} {N : List dX} {op : Int} {gv nv v : Value} {gs : List (Value × List cO)} {now es : List cO} {a : Int} {d z : Value} {dl il : List Int}
theorem vP (H : aB w0 w (dR p G N op • F)) : fO prog 218 #[.pointer (some ⟨p, 0, none⟩)] w fun _ w' => aB w0 w' (dR p (jc G N) [] 0 • F) := by
 refine gB func218 ntmps218 ?_
 dsimp only [bf, Nat.reduceAdd]
 refine ay (ay ?_)
 obtain ⟨vO, sQ, jl, iZ, iI, pq, mX, CU, CV, F8, kT⟩ := (H).sO
 refine ah (aN rfl (bP rfl (bF 0 underlying180 rfl sizeOf178 rfl (bF 1 underlying178 rfl sizeOf35 rfl (dV underlying35 rfl (kT).get.2 rfl (aX (iM ((kT.f4).aT) underlying35 rfl) (aX (dn rfl rfl) (aA (aj (aO rfl (fun h1 => ?_) (fun h1 => ?_)))))))))))
 ·(try simp only [aH] at h1)
  have VQ : 0 < iZ.length := by omega
  have TR := kT.drew
  have uT := aB.kp (TR.f5.f5.f5.f5.f5)
  refine yZ [5, 10] uT rfl (iF 0 rfl uT rfl (iF 1 rfl uT rfl (jQ 2 rfl uT rfl (gV 3 rfl uT 0 underlying180 rfl sizeOf178 rfl (gV 4 rfl uT 0 underlying178 rfl sizeOf176 rfl (jk 5 rfl uT (fun W hW => jP underlying176 rfl ((Kp.h hW)).get.2 rfl) (iF 6 rfl uT rfl (jQ 7 rfl uT rfl (gV 8 rfl uT 0 underlying180 rfl sizeOf178 rfl (gV 9 rfl uT 1 underlying178 rfl sizeOf35 rfl (jk 10 rfl uT (fun W hW => jP underlying35 rfl ((Kp.h hW)).get.2 rfl) (kE 11 rfl (nV (vs := [_]) TR underlying176 sizeOf35 zeroValue35 rfl rfl rfl (by decide) (aC (by first | rfl | exact Rd.one ((TR.f4).aT)) bV)) ?_))))))))))))
  rintro l2 w2 H2
  have TS := aB.kp (H2.f6.f6.f6.f6.f6.f6)
  refine dQ TS (fun W hW => (Kp.h hW).right.f5.f5.f5.f5.f5) ?_
  refine kE 12 rfl (iC H2.f3 underlying176 (show (prog.info? 35).map (fun i => (i.zero, i.size, i.bytes)) = some (some (.slice none 0 0), 1, 24) by kernel_rfl) rfl rfl rfl ((H2).aT) (aC (by first | rfl | exact Rd.one ((H2.f5).aT)) bV) (by omega) (by omega)) ?_
  rintro l3 w3 H3
  have X9 := H3.f2.right
  have wR := aB.kp (X9.f5.f5.f5.f5.f5)
  refine fQ wR (by kernel_rfl) ?_
  refine jQ 13 rfl wR rfl (gV 14 rfl wR 0 underlying180 rfl sizeOf178 rfl (gV 15 rfl wR 0 underlying178 rfl sizeOf176 rfl ?_))
  refine fU 16 rfl (by kernel_rfl) (aS 0 (l' := [_, _, _, _, _]) X9.f2 sizeOf176 rfl rfl (by first | rfl | exact Rd.one ((X9).aT)) rfl rfl) ?_
  rintro _ w5 H5
  have JR := aB.kp (H5.f5.f5.f5.f5.f5)
  refine fQ JR (by kernel_rfl) ?_
  refine pO (aj (ah (aN rfl (aN rfl (bP rfl (bF 0 underlying180 rfl sizeOf178 rfl (bF 1 underlying178 rfl sizeOf35 rfl (aG (aS 1 (l' := [_, _, _, _, _]) H5 sizeOf35 rfl rfl (by first | rfl | assumption) rfl rfl) ?_))))))))
  rintro _ w6 H6
  refine bP rfl (bF 0 underlying180 rfl sizeOf178 rfl (bF 2 underlying178 rfl sizeOf3 rfl (aG (aS 2 (l' := [_, _, _, _, _]) H6 sizeOf3 rfl rfl (by first | rfl | assumption) rfl rfl) ?_)))
  rintro _ w7 H7
  refine aA (fZ (.inr rfl) results218 ?_)
  have hN : N ≠ [] := by rintro rfl; exact absurd CV (by simp only [List.length_nil]; omega)
  rw [lT hN]
  have X := aB.qj (v := sQ) (es := iZ) (H7.f3.f3.f5.f5).deep
  have X4 := aB.sN X.swap
  refine aB.oP (gv := l3) (nv := .slice none 0 0) (gs := jl ++ [(sQ, iZ)]) (now := []) (ed := (dS G N : Nat)) ⟨KZ iI.1 hN, by rw [← lT hN, C9]; exact iI.2.1, by decide, by decide, Ip iI.2.2.2.2.1 iI.2.2.2.2.2, by simp⟩ (by rw [List.map_append, pq, ← mX]; rfl) rfl (by rw [← lT hN, C9]) ((X4.oJ none).of_eq (by ac_rfl))
 ·(try simp only [aH] at h1)
  have VQ : iZ.length = 0 := by omega
  refine aP (aj (ah (aN rfl (aN rfl (bP rfl (bF 0 underlying180 rfl sizeOf178 rfl (bF 1 underlying178 rfl sizeOf35 rfl (aG (aS 1 (l' := [_, _, _, _, _]) kT sizeOf35 rfl rfl (by first | rfl | assumption) rfl rfl) ?_))))))))
  rintro _ w8 H8
  refine bP rfl (bF 0 underlying180 rfl sizeOf178 rfl (bF 2 underlying178 rfl sizeOf3 rfl (aG (aS 2 (l' := [_, _, _, _, _]) H8 sizeOf3 rfl rfl (by first | rfl | assumption) rfl rfl) ?_)))
  rintro _ w9 H9
  refine aA (fZ (.inr rfl) results218 ?_)
  have hN : N = [] := by rw [← mX, List.eq_nil_of_length_eq_zero VQ]; rfl
  subst hN
  rw [JQ rfl]
  refine aB.oP (gv := vO) (nv := .slice none 0 0) (gs := jl) (now := []) (ed := (dS G [] : Nat)) ⟨iI.1, iI.2.1, by decide, by decide, iI.2.2.2.2⟩ pq rfl rfl (((H9.f4.right.f4.right.f3.f3).oJ none).of_eq (by unfold yI; ac_rfl))
theorem aB.Gi (H : aB w0 w (y5 v es • F)) : aB w0 w (y5 v es • y5 v es • F) := H.Bl
theorem Na (b : Nat) : Iter prog w0 (.func (.func 253) #[] #[.pointer (some ⟨b, 0, none⟩)]) (dB b (.cells #[v] 35 (0, 0)) • y5 v es) es.length
  (fun k vs A => vs = [.int .i64 ((es.length - (k + 1) : Nat) : Int), .agg (es.getD (es.length - (k + 1)) default).enc.toArray] ∧ A = y5 v es) := by
 intro l J X w hy H
 refine ⟨253, [], [.pointer (some ⟨b, 0, none⟩)], _, _, rfl, func253, rfl, rfl, ?_⟩
 have H1 : aB w0 w (dB b (.cells #[v] 35 (0, 0)) • y5 v es • J 0) := H.of_eq (by ac_rfl)
 obtain ⟨a, c, hv, hc1, hc2, _⟩ := (H1.swap.xI).form
 subst hv
 simp only [List.nil_append, List.cons_append]
 refine gB func253 ntmps253 ?_
 dsimp only [bf, Nat.reduceAdd]
 refine ay (ah (dV underlying35 rfl (H1).get.2 rfl (aX (iM ((H1.f2).xI) underlying35 rfl) (aX (iG rfl rfl (by omega)) (aV rfl (aA (aj (bC ?_))))))))
 refine iw [(0, _), (1, _)] (fun (k : Nat) => [(3, .int .i64 ((k : Int) - 1))]) (fun (k : Nat) W => k ≤ es.length ∧ aB w0 W (dB b (.cells #[.slice a es.length c] 35 (0, 0)) • y5 (.slice a es.length c) es • J (es.length - k))) (fun (k : Nat) => k) (es.length) (Sub.cons rfl (Sub.cons rfl (Sub.nil _))) (Sub.cons rfl (Sub.nil _)) ⟨by omega, by rw [Nat.sub_self]; exact H1⟩ ?_
 rintro k w1 ⟨hk, HL⟩
 dsimp only [List.cons_append, List.nil_append]
 refine ay (ay (ah (aN rfl (aX (jS rfl rfl) (aA (aj (aO rfl (fun h1 => ?_) (fun h1 => ?_))))))))
 ·(try simp only [aH] at h1)
  try (exfalso; first | contradiction | omega)
  all_goals
   refine aP (aj (ay (bC (ay ?_))))
   obtain ⟨m, rfl⟩ : ∃ m, k = m + 1 := ⟨k - 1, by omega⟩
   rw [show (((m + 1 : Nat) : Int) - 1) = (m : Int) from by omega]
   refine ah (aN rfl (aN rfl (dV underlying35 rfl (HL).get.2 rfl (aN rfl ?_))))
   obtain ⟨bv, ov, cv, ev⟩ := Rd.BL ((HL.f2).xI) (by omega)
   cases ev
   refine aX (iV underlying35 sizeOf101 rfl rfl (by omega)) (aX (kJ (ys := [_, _, _]) ((HL.f2).xI) (by omega) underlying101 rfl sizeOf101 rfl (nZ cO.yG (by omega) default) rfl) (jh (Gh rfl rfl (hy (es.length - (m + 1)) (by omega) _ _ ⟨by rw [show es.length - (es.length - (m + 1) + 1) = m from by omega]; rfl, rfl⟩ (y5 (.slice (some ⟨bv, ov, none⟩) es.length c) es • dB b (.cells #[.slice (some ⟨bv, ov, none⟩) es.length c] 35 (0, 0))) _ (HL.swap.Gi.of_eq (by ac_rfl))).bool) ?_))
   rintro _ w2 ⟨t, rfl, ht1, ht2⟩
   refine aX (kF rfl) (aA (aj (aO rfl (fun h2 => ?_) (fun h2 => ?_))))
   ·(try simp only [aH] at h2)
    try (exfalso; first | contradiction | omega)
    all_goals
     have HX := ht2 (by simpa using h2)
     refine aJ (aW (aK (aK (aW (fZ (.inl rfl) results253 ?_)))))
     exact .inr (HX.of_eq (by ac_rfl))
   ·(try simp only [aH] at h2)
    try (exfalso; first | contradiction | omega)
    all_goals
     have HN : aB w0 w2 (dB b (.cells #[.slice (some ⟨bv, ov, none⟩) es.length c] 35 (0, 0)) • y5 (.slice (some ⟨bv, ov, none⟩) es.length c) es • J (es.length - m)) := by
      have h9 := ht1 (by simpa using h2)
      rw [show es.length - (m + 1) + 1 = es.length - m from by omega] at h9
      exact h9.of_eq (by ac_rfl)
     refine aP (aQ (aj (ah (aN rfl (aX (iG rfl rfl (by omega)) (aV rfl (aA ?_)))))))
     refine fE (m) ?_ ?_ ?_ ?_
     ·exact (Sub.cons rfl (Sub.nil _))
     ·exact (Sub.cons rfl (Sub.cons rfl (Sub.nil _)))
     ·(try dsimp only)
      first | done | exact ⟨by omega, HN.f2.f2⟩
     ·(try dsimp only); omega
 ·(try simp only [aH] at h1)
  try (exfalso; first | contradiction | omega)
  all_goals
   refine eX (aY (aY (bU (fZ (.inr rfl) results253 ?_))))
   obtain rfl : k = 0 := by omega
   rw [Nat.sub_zero] at HL
   exact .inl (HL.of_eq (by ac_rfl))
end
end Go.Proofs.YtgndbccogcofjaaGreatDoor
end
section
namespace Go.Proofs.YtgndbccogcofjaaGreatDoor
open Go.RowKit
open _root_.Go.Proofs.Tryz
def Dc (e : dX) : dX := (e.1, e.2.2, e.2.1)
def OO (c : Nat) (es : List cO) (k : Nat) : HP := rD fun (x : Value × List cO) => fact (x.2.map cO.says = ((es.map cO.says).reverse.take k).map Dc) • dB c (.cells #[x.1] 35 (0, 0)) • Eh x.1 x.2
theorem OQ {es : List cO} {k : Nat} (hk : k < es.length) : ((es.map cO.says).reverse.take (k + 1)).map Dc = ((es.map cO.says).reverse.take k).map Dc ++ [Dc (es.getD (es.length - (k + 1)) default).says] := by
  rw [List.take_succ_eq_append_getElem (by simpa using hk), List.map_append]
  congr 1
  simp only [List.map_cons, List.map_nil, List.getElem_reverse, List.getElem_map, List.length_map]
  rw [List.getD_eq_getElem?_getD, List.getElem?_eq_getElem (by omega)]
  have e : es.length - 1 - k = es.length - (k + 1) := by omega
  simp only [Option.getD_some, e]
section
variable {w0 w : World} {F : HP} {p : Nat} {G : List (List dX)} {N : List dX} {op : Int} {gv nv v : Value} {gs : List (Value × List cO)} {now es : List cO} {a : Int} {d z : Value} {dl il : List Int}
theorem aB.Iy {c k : Nat} (H : aB w0 w (OO c es k • F)) : ∃ u fs, fs.map cO.says = ((es.map cO.says).reverse.take k).map Dc ∧ fs.length ≤ es.length ∧ aB w0 w (dB c (.cells #[u] 35 (0, 0)) • Row 101 3 u fs.length (fs.flatMap cO.enc) • je fs • F) := by
  obtain ⟨⟨u, fs⟩, H⟩ := H.lK
  obtain ⟨h, H⟩ := H.flat.fact
  refine ⟨u, fs, h, ?_, ?_⟩
  · have := congrArg List.length h
    simp at this
    omega
  · have := H.flat
    unfold Eh at this
    exact this.of_eq (by ac_rfl)
theorem aB.OT {c k : Nat} {u : Value} {fs : List cO} (h : fs.map cO.says = ((es.map cO.says).reverse.take k).map Dc) (H : aB w0 w (dB c (.cells #[u] 35 (0, 0)) • Eh u fs • F)) : aB w0 w (OO c es k • F) :=
  aB.gY (u, fs) (aB.deep (aB.jF h H.deep))
theorem aB.TT (H : aB w0 w (y5 v es • F)) {k : Nat} (hk : k < es.length) : aB w0 w (BN .i32 (es.getD k default).d (es.getD k default).dl • BN .i32 (es.getD k default).i (es.getD k default).il • y5 v es • F) := by
  have h1 : aB w0 w (BN .i32 (es.getD k default).d (es.getD k default).dl • y5 v es • y5 v es • F) := H.Gi.Gi.DX (rY (fun I h => (h.2 k hk).1) _)
  have h2 : aB w0 w (BN .i32 (es.getD k default).i (es.getD k default).il • BN .i32 (es.getD k default).d (es.getD k default).dl • y5 v es • F) := h1.swap.DX (rY (fun I h => (h.2 k hk).2) _)
  exact h2.swap
theorem Nb (H : aB w0 w F) (hv : v.oneCell' = true) : fO prog 240 #[v] w fun v' w' => ∃ b, v' = .func (.func 253) #[] #[.pointer (some ⟨b, 0, none⟩)] ∧ aB w0 w' (dB b (.cells #[v] 35 (0, 0)) • F) := by
 refine gB func240 ntmps240 ?_
 dsimp only [bf, Nat.reduceAdd]
 refine ay (ah (jh (iL (l := [_]) H rfl (by first | rfl | exact zi (by first | rfl | assumption))) ?_))
 rintro _ w1 ⟨b1, rfl, H1⟩
 refine aV rfl (aA (aj (ay (ah (aX (tN rfl rfl) (aV rfl (aA (aj (aJ (aI (.inl rfl) results240 rfl ?_))))))))))
 exact ⟨_, rfl, H1⟩
theorem yL (H : aB w0 w (y5 v es • F)) (hB : ∀ k, k < es.length → EB (es.getD k default).says) (hL : es.length ≤ 16384) :
  fO prog 219 #[v] w fun v' w' => ∃ fs : List cO, fs.map cO.says = (es.map cO.says).reverse.map Dc ∧ aB w0 w' (Row 101 3 v' fs.length (fs.flatMap cO.enc) • je fs • y5 v es • F) := by
 refine gB func219 ntmps219 ?_
 dsimp only [bf, Nat.reduceAdd]
 refine ay (ah (aV rfl (aA (aj (ay (ah (jh (gJ (l := [_]) H zeroValue35 rfl) ?_)))))))
 rintro _ w1 ⟨b1, rfl, H1⟩
 refine aA (aj (ay (ay (ah (aN rfl (bZ rfl func240 (Nb H1 (Rd.one ((H1.f2).xI))) ?_))))))
 rintro _ w2 ⟨bB2, rfl, H2⟩
 refine aA (aj (bC ?_))
 have Ho3 := H2.f2
 have Hc4 := aB.OT (es := es) (k := 0) (fs := []) rfl (Ho3.oJ none).swap
 refine uo rfl (Na bB2) (fun k => OO b1 es k • F) (fact False) (fun _ => fact False) (Hc4.f3.f3.f3.f3.f3.g2.comm) (by rfl) ?_ ?_ ?_ ?_
 ·rintro l5 k TU vs5 A5 ⟨rfl, rfl⟩ G5 w5 H5
  try simp only [bT, jm, pF] at H5
  refine ⟨rfl, ?_⟩
  dsimp only [JO]
  have Hq := (H5).TT (k := es.length - (k + 1)) (by omega)
  obtain ⟨hb1, hb2⟩ := hB (es.length - (k + 1)) (by omega)
  have hb1 : (es.getD (es.length - (k + 1)) default).dl.length ≤ 35184372087808 := hb1
  have hb2 : (es.getD (es.length - (k + 1)) default).il.length ≤ 35184372087808 := hb2
  obtain ⟨u, fs, hfs, hfl, HI⟩ := (Hq.f4).Iy
  refine ah (jh (gJ (l := [_, _, _]) HI zeroValue101 rfl) ?_)
  rintro _ w6 ⟨b6, rfl, H6⟩
  refine aG (cZ 0 (l' := [_, _, _]) (us := [_, _, _]) H6 sizeOf101 rfl rfl rfl (aC (by first | rfl | assumption) (aC (by first | rfl | exact Rd.one ((H6.f5).FD)) (aC (by first | rfl | exact Rd.one ((H6.f6).FD)) bV))) rfl rfl) ?_
  rintro _ w7 H7
  refine aA ?_
  refine JM (H7.g8) ?_
  intro G8 w8 H8
  try simp only [bT] at H8
  refine bC ?_
  have VR := H8.drew
  have OU := aB.kp (VR.f7.f7.f7.f7.f7.f7.f7)
  refine yZ [0, 1] OU rfl (jk 0 rfl OU (fun W hW => jP underlying35 rfl ((Kp.h hW).f2).get.2 rfl) (jk 1 rfl OU (fun W hW => bW underlying101 rfl sizeOf101 rfl rfl ((Kp.h hW)).get.2) (kE 2 rfl (wW rfl func241 (zA VR (fun W HW => (HW.f5).FD) (fun W HW => (HW.f6).FD) (by omega) (by omega))) ?_)))
  rintro _ w9 ⟨d9, s9, rfl, H9⟩
  have JJ := aB.kp (H9.f9.f9.f9.f9.f9.f9.f9.f9.f9)
  refine dQ JJ (fun W hW => (Kp.h hW).right.right.f7.f7.f7.f7.f7.f7.f7) ?_
  refine kE 3 rfl (pU H9 underlying35 sizeOf101 zeroValue101 rfl rfl rfl (by decide) (by decide)) ?_
  rintro l10 w10 nO
  have EP := aB.kp (nO.f10.f10.f10.f10.f10.f10.f10.f10.f10.f10)
  refine dQ EP (fun W hW => (Kp.h hW).right.f9.f9.f9.f9.f9.f9.f9.f9.f9) ?_
  refine kE 4 rfl (iC nO.f6 underlying35 (show (prog.info? 101).map (fun i => (i.zero, i.size, i.bytes)) = some (some (.agg #[.int .i64 0, .slice none 0 0, .slice none 0 0]), 3, 56) by kernel_rfl) rfl rfl rfl ((nO).aT) (aC (by first | rfl | assumption) (aC (by first | rfl | exact Rd.one ((nO.f2).aT)) (aC (by first | rfl | exact Rd.one ((nO.f3).aT)) bV))) (by omega) (by omega)) ?_
  rintro l11 Hz vk
  have JU := vk.f2.right
  have yK := aB.kp (JU.f9.f9.f9.f9.f9.f9.f9.f9.f9)
  refine fQ yK (by kernel_rfl) ?_
  refine fU 5 rfl (by kernel_rfl) (aS 0 (l' := [_]) JU.f5 sizeOf35 rfl rfl (by first | rfl | exact Rd.one ((JU).aT)) rfl rfl) ?_
  rintro _ MN uO
  have wZ := aB.kp (uO.f9.f9.f9.f9.f9.f9.f9.f9.f9)
  refine fQ wZ (by kernel_rfl) ?_
  refine pO (aQ ?_)
  refine CZ ?_
  have X := (uO.f5.right.f6.right.f6.right.f6.right.f6.f2.f6.f4.f6.f6).jG.swap.jG.swap
  have X2 := aB.sK X.f3
  exact (aB.OT (es := es) (k := k + 1) (by rw [List.map_append, hfs, OQ (by omega)]; rfl) X2.swap).deep
 ·rintro D14 Jw xE
  have Ij := xE.ed
  try simp only [bT, jm, pF] at Ij
  have TV := Ij.KF
  obtain ⟨u, fs, hfs, hfl, HI⟩ := (TV.f4).Iy
  refine aQ (aj (ay (ah (dV underlying35 rfl (HI).get.2 rfl (aV rfl (aA (aj (aJ ?_))))))))
  refine AX (.inl rfl) (HI.f4) (fun MO uf => ?_)
  refine ⟨_, Tf results219 rfl, ?_⟩
  rw [List.take_of_length_le (by simp)] at hfs
  exact ⟨_, hfs, uf.right.f3.right.f3.f3.f3⟩
 ·rintro D w H; exact absurd H.swap.fact.1 id
 ·rintro id D w H; exact absurd H.swap.fact.1 fun h => h
end
end Go.Proofs.YtgndbccogcofjaaGreatDoor
end
section
namespace Go.Proofs.YtgndbccogcofjaaGreatDoor
open Go.RowKit
open _root_.Go.Proofs.Tryz
def OV (G : List (List dX)) (N : List dX) : Int := if G.length + N.length = 0 then 6 else 0
def Ld (G : List (List dX)) (N : List dX) : List (List dX) := if G.length + N.length = 0 then G else (jc G N).dropLast
def Le (G : List (List dX)) (N : List dX) : List dX := if G.length + N.length = 0 then N else []
def Lh (G : List (List dX)) (N : List dX) (op : Int) : Int := if G.length + N.length = 0 then op else 0
def Sj (G : List (List dX)) (N : List dX) : List dX := if G.length + N.length = 0 then [] else ((jc G N).getLastD []).reverse.map Dc
theorem ER {G : List (List dX)} {g N : List dX} : dS (G ++ [g]) N = dS G N + g.length := by simp [dS]; omega
section
variable {w0 w : World} {F : HP} {p : Nat} {G : List (List dX)} {N : List dX} {op : Int} {gv nv v : Value} {gs : List (Value × List cO)} {now es : List cO} {a : Int} {d z : Value} {dl il : List Int}
theorem JV (h : ¬ G.length + N.length = 0) : jc G N ≠ [] := by
  unfold jc; split
  · rename_i hN; rintro rfl; subst hN; exact h rfl
  · simp
theorem aB.JW (H : aB w0 w (dR p G [] op • F)) (hG : G ≠ []) : ∃ gv nv hs gl uq, G = hs.map (fun g => g.2.map cO.says) ++ [uq.map cO.says] ∧ QT G [] op ∧ G.length = hs.length + 1 ∧ hs.length ≤ 16384 ∧ uq.length ≤ 16384 ∧ (∀ k, k < uq.length → EB (uq.getD k default).says) ∧
    aB w0 w (dB p (.cells #[gv, nv, .int .i64 op, .int .i64 (dS G [] : Nat), .bool true] 180 (0, 0)) • Row 35 1 gv (hs.length + 1) (hs.map (·.1) ++ [gl]) • mO hs • y5 gl uq • Eh nv [] • F) := by
  obtain ⟨gv, nv, gs, now, h1, h2, h3, h4, h5, h6, H⟩ := H.sO
  obtain rfl : now = [] := List.eq_nil_of_length_eq_zero (by simpa using h5)
  rcases List.eq_nil_or_concat gs with rfl | ⟨hs, ⟨gl, uq⟩, rfl⟩
  · exact absurd h2.symm hG
  · have hG2 : G = hs.map (fun g => g.2.map cO.says) ++ [uq.map cO.says] := by rw [← h2]; simp
    have hle : uq.length ≤ 16384 := by
      have := h1.2.1
      rw [hG2, ER] at this
      simp at this
      omega
    refine ⟨gv, nv, hs, gl, uq, hG2, h1, ?_, ?_, hle, fun k hk => ?_, ?_⟩
    · rw [hG2]; simp
    · rw [hG2] at h6; simp at h6; omega
    · refine h1.2.2.2.2.1 (uq.map cO.says) (by rw [hG2]; simp) _ ?_
      rw [List.getD_eq_getElem?_getD, List.getElem?_eq_getElem hk]
      exact List.mem_map_of_mem (List.getElem_mem hk)
    · rw [List.concat_eq_append, List.length_append, List.map_append] at H
      have H1 := (H.f3.Io (k := hs.length) (by simp)).swap
      rw [show (hs ++ [(gl, uq)]).getD hs.length default = (gl, uq) from by simp [List.getD_eq_getElem?_getD]] at H1
      have H2 := H1.OB hs.length
      rw [List.take_left' rfl] at H2
      exact H2.of_eq (by unfold Eh; ac_rfl)
theorem xk (H : aB w0 w (dR p G N op • F)) : fO prog 162 #[.pointer (some ⟨p, 0, none⟩)] w fun v w' => ∃ u, ∃ fs : List cO, v = .tuple #[u, .int .i64 (OV G N)] ∧ fs.map cO.says = Sj G N ∧
  aB w0 w' (Row 101 3 u fs.length (fs.flatMap cO.enc) • je fs • dR p (Ld G N) (Le G N) (Lh G N op) • F) := by
 unfold OV Sj Ld Le Lh
 refine gB func162 ntmps162 ?_
 dsimp only [bf, Nat.reduceAdd]
 refine ay (ah (aV rfl (aV rfl (aA (aj (ay (ay (ah (aN rfl (bZ rfl func181 (iP H) ?_))))))))))
 rintro _ _ ⟨rfl, rfl⟩
 refine aA (aj (nN (aP (aj (ay (ay ?_))))))
 obtain ⟨vO, sQ, jl, iZ, iI, pq, mX, CU, CV, F8, kT⟩ := (H).sO
 have Iz := kT.drew
 have iQ := aB.kp (Iz.f5.f5.f5.f5.f5)
 refine yZ [4, 10] iQ rfl (iF 0 rfl iQ rfl (jQ 1 rfl iQ rfl (gV 2 rfl iQ 0 underlying180 rfl sizeOf178 rfl (gV 3 rfl iQ 0 underlying178 rfl sizeOf176 rfl (jk 4 rfl iQ (fun W hW => jP underlying176 rfl ((Kp.h hW)).get.2 rfl) (jg 5 rfl iQ (fun _ => iM ((Iz.f2).aT) underlying176 rfl) (iF 6 rfl iQ rfl (jQ 7 rfl iQ rfl (gV 8 rfl iQ 0 underlying180 rfl sizeOf178 rfl (gV 9 rfl iQ 1 underlying178 rfl sizeOf35 rfl (jk 10 rfl iQ (fun W hW => jP underlying35 rfl ((Kp.h hW)).get.2 rfl) (jg 11 rfl iQ (fun _ => iM ((Iz.f4).aT) underlying35 rfl) (jg 12 rfl iQ (fun _ => gy rfl rfl (by omega)) (jg 13 rfl iQ (fun _ => dO rfl rfl) (pO (aj (aO rfl (fun h1 => ?_) (fun h1 => ?_))))))))))))))))))
 ·(try simp only [aH] at h1)
  have Xk : G.length + N.length = 0 := by omega
  have OC := Iz.f5.f5.f5.f5.f5
  have OD := aB.jw iI pq mX rfl OC
  refine ay (ah (aV rfl (aV rfl (aA (aj (aJ (aK (lH (.inl rfl) results162 rfl rfl ?_))))))))
  simp only [if_pos Xk]
  exact ⟨_, [], rfl, rfl, ((OD).oJ none).UW⟩
 ·(try simp only [aH] at h1)
  have Xk : ¬ G.length + N.length = 0 := by omega
  have TW := Iz.f5.f5.f5.f5.f5
  have TY := aB.jw iI pq mX rfl TW
  refine aP (aj (ay (ah (aN rfl (bZ rfl func218 (vP TY) ?_)))))
  rintro _ w9 H9
  refine aA (aj (ay ?_))
  obtain ⟨gv, nv, hs, gl, uq, hG, hok, hl1, hl2, hl3, hEB, HU⟩ := (H9).JW (JV Xk)
  have htot := hok.2.1
  refine ah (aN rfl (bP rfl (bF 0 underlying180 rfl sizeOf178 rfl (bF 0 underlying178 rfl sizeOf176 rfl (dV underlying176 rfl (HU).get.2 rfl (aX (iM ((HU.f2).aT) underlying176 rfl) (aX (iG rfl rfl (by omega)) (aV rfl (aA (aj (ay (ah (aN rfl (bP rfl (bF 0 underlying180 rfl sizeOf178 rfl (bF 0 underlying178 rfl sizeOf176 rfl (dV underlying176 rfl (HU).get.2 rfl (aN rfl ?_))))))))))))))))))
  obtain ⟨bgv, ogv, cgv, egv⟩ := Rd.BL ((HU.f2).aT) (by omega)
  cases egv
  refine aX (iV underlying176 sizeOf35 rfl rfl (by omega)) ?_
  refine aX (nU (dK underlying35 rfl) rfl (by first | exact Rd.MI ((HU.f2).aT) (by omega) | exact Rd.Vb ((HU.f2).aT) (by omega) | exact Rd.UJ ((HU.f2).aT) (by omega))) ?_
  rw [show (hs.map (·.1) ++ [gl]).getD ((((hs.length + 1 : Nat)) : Int) - 1).toNat undef = gl from by rw [show ((((hs.length + 1 : Nat)) : Int) - 1).toNat = hs.length from by omega]; simp [List.getD_eq_getElem?_getD]]
  refine aV rfl (aA (aj (ay (ah (aN rfl (aN rfl (bP rfl (bF 0 underlying180 rfl sizeOf178 rfl (bF 0 underlying178 rfl sizeOf176 rfl (dV underlying176 rfl (HU).get.2 rfl (aN rfl (aX (BM ((HU.f2).aT) underlying176 sizeOf35 rfl rfl rfl (by omega)) (bP rfl (bF 0 underlying180 rfl sizeOf178 rfl (bF 0 underlying178 rfl sizeOf176 rfl (aG (aS 0 (l' := [_, _, _, _, _]) HU sizeOf176 rfl rfl (by first | rfl | exact Rd.one (Rd.VH ((HU.f2).aT) (by omega))) rfl rfl) ?_))))))))))))))))
  rintro _ w10 nO
  refine aA (aj (ay (ah (aN rfl (bP rfl (bF 0 underlying180 rfl sizeOf178 rfl (bF 3 underlying178 rfl sizeOf3 rfl (dV underlying3 rfl (nO).get.2 rfl (aN rfl (aX (iM ((nO.f4).xI) underlying35 rfl) (aX (iG rfl rfl (by omega)) (bP rfl (bF 0 underlying180 rfl sizeOf178 rfl (bF 3 underlying178 rfl sizeOf3 rfl (aG (aS 3 (l' := [_, _, _, _, _]) nO sizeOf3 rfl rfl (by first | rfl | assumption) rfl rfl) ?_)))))))))))))))
  rintro _ Hz vk
  refine aA (aj (ay (ah (aN rfl (bZ rfl func219 (yL vk.f4 hEB hl3) ?_)))))
  rintro Xc w12 ⟨OW, Sl, wP⟩
  refine aV rfl (aV rfl (aA (aj (aJ (lH (.inl rfl) results162 rfl rfl ?_)))))
  simp only [if_neg Xk]
  have hdl : (jc G N).dropLast = hs.map (fun g => g.2.map cO.says) := by rw [hG]; simp
  have hlast : (jc G N).getLastD [] = uq.map cO.says := by rw [hG]; simp
  have hX := (wP.f3.right.f6.f6.f5.f5.f5.f6).N8 (h := hs.length) (by omega)
  rw [hdl, hlast]
  rw [Nat.mul_one, List.take_left' (by simp), show (((hs.length + 1 : Nat) : Int) - 1).toNat = hs.length from by omega, show Int.toNat 0 = 0 from rfl] at hX
  have hT : dS (jc G N) [] = dS (hs.map (fun g => g.2.map cO.says)) [] + uq.length := by rw [hG, ER, List.length_map]
  have hok2 : QT (hs.map (fun g => g.2.map cO.says)) [] 0 := ⟨fun g hg => hok.1 g (by rw [hG]; exact List.mem_append_left _ hg), by omega, by decide, by decide, fun g hg => hok.2.2.2.2.1 g (by rw [hG]; exact List.mem_append_left _ hg), by simp⟩
  refine ⟨_, _, rfl, (by assumption), ?_⟩
  have hU := aB.oP (gv := lZ 1 0 hs.length (.slice (some ⟨bgv, ogv, none⟩) (hs.length + 1) cgv)) (nv := nv) (gs := hs) (now := []) (ed := (dS (jc G N) [] : Nat) - (uq.length : Int)) (F := Row 101 3 Xc OW.length (OW.flatMap cO.enc) • je OW • F) hok2 rfl rfl (by omega) (hX.of_eq (by unfold yI; ac_rfl))
  exact hU.of_eq (by ac_rfl)
end
end Go.Proofs.YtgndbccogcofjaaGreatDoor
end
section
namespace Go.Proofs.YtgndbccogcofjaaGreatDoor
open Go.RowKit
open _root_.Go.Proofs.Tryz
def qo (op : Int) : Int := if op = 0 then 1 else 0
def Ua (G : List (List dX)) (N : List dX) (op : Int) : List (List dX) := if op = 1 then jc G N else G
def Ub (N : List dX) (op : Int) : List dX := if op = 1 then [] else N
def QU (op : Int) : Int := if op = 0 then 0 else op - 1
theorem Nc {es : List cO} {k : Nat} (hk : k < es.length) : (es.take (k + 1)).map cO.says = (es.take k).map cO.says ++ [(es.getD k default).says] := by
  rw [List.take_succ_eq_append_getElem hk, List.map_append, List.getD_eq_getElem?_getD, List.getElem?_eq_getElem hk]
  rfl
section
variable {w0 w : World} {F : HP} {p : Nat} {G : List (List dX)} {N : List dX} {op : Int} {gv nv v : Value} {gs : List (Value × List cO)} {now es : List cO} {a : Int} {d z : Value} {dl il : List Int}
theorem uw (H : aB w0 w (dR p G N op • F)) : fO prog 165 #[.pointer (some ⟨p, 0, none⟩)] w fun v w' => v = .int .i64 (qo op) ∧ aB w0 w' (dR p (Ua G N op) (Ub N op) (QU op) • F) := by
 unfold qo Ua Ub QU
 refine gB func165 ntmps165 ?_
 dsimp only [bf, Nat.reduceAdd]
 refine ay (ah (aV rfl (aA (aj (ay (ay (ah (aN rfl (bZ rfl func181 (iP H) ?_)))))))))
 rintro _ _ ⟨rfl, rfl⟩
 refine aA (aj (nN (aP (aj (ay (ay ?_))))))
 obtain ⟨vO, sQ, jl, iZ, iI, pq, mX, CU, CV, F8, kT⟩ := (H).sO
 have hop := iI.2.2.1
 have hop2 := iI.2.2.2.1
 refine ah (aN rfl (bP rfl (bF 0 underlying180 rfl sizeOf178 rfl (bF 2 underlying178 rfl sizeOf3 rfl (dV underlying3 rfl (kT).get.2 rfl (aX (dO rfl rfl) (aA (aj (aO rfl (fun h1 => ?_) (fun h1 => ?_))))))))))
 ·(try simp only [aH] at h1)
  have h0 : op = 0 := by omega
  refine ay (ah (aV rfl (aA (aj (aJ (aK (aI (.inl rfl) results165 rfl ?_)))))))
  have OC := kT.f5.f5.f5.f5.f5
  have OD := aB.jw iI pq mX rfl OC
  subst h0
  exact ⟨rfl, OD⟩
 ·(try simp only [aH] at h1)
  have h0 : ¬ op = 0 := by omega
  refine aP (aj (ay (ay (ah (aN rfl (bP rfl (bF 0 underlying180 rfl sizeOf178 rfl (bF 2 underlying178 rfl sizeOf3 rfl (dV underlying3 rfl (kT).get.2 rfl (aX (iG rfl rfl (by omega)) (bP rfl (bF 0 underlying180 rfl sizeOf178 rfl (bF 2 underlying178 rfl sizeOf3 rfl (aG (aS 2 (l' := [_, _, _, _, _]) kT sizeOf3 rfl rfl (by first | rfl | assumption) rfl rfl) ?_))))))))))))))
  rintro _ w6 H6
  refine aA (aj (ay (ah (aN rfl (bP rfl (bF 0 underlying180 rfl sizeOf178 rfl (bF 2 underlying178 rfl sizeOf3 rfl (dV underlying3 rfl (H6).get.2 rfl (aX (dO rfl rfl) (aA (aj (aO rfl (fun h2 => ?_) (fun h2 => ?_)))))))))))))
  ·(try simp only [aH] at h2)
   have h1 : op = 1 := by omega
   have TW := H6.f5.f5.f5.f5.f5
   have TY := aB.jw (op := op - 1) ⟨iI.1, iI.2.1, by omega, by omega, iI.2.2.2.2⟩ pq mX rfl TW
   refine ah (aN rfl (bZ rfl func218 (vP TY) ?_))
   rintro _ w9 H9
   refine aA (aj (ay (ah (aV rfl (aA (aj (aJ (aI (.inl rfl) results165 rfl ?_))))))))
   subst h1
   exact ⟨rfl, H9⟩
  ·(try simp only [aH] at h2)
   have h1 : ¬ op = 1 := by omega
   refine aP (aj (ay (ah (aV rfl (aA (aj (aJ (aI (.inl rfl) results165 rfl ?_))))))))
   rw [if_neg h0, if_neg h1, if_neg h1, if_neg h0]
   exact ⟨rfl, aB.jw ⟨iI.1, iI.2.1, by omega, by omega, iI.2.2.2.2⟩ pq mX rfl H6.f5.f5.f5.f5.f5⟩
theorem Df (H : aB w0 w F) (hv : Jk w0 F 3 v es.length (es.flatMap cO.enc)) (he : ∀ k, k < es.length → gW w0 F .i32 (es.getD k default).d (es.getD k default).dl ∧ gW w0 F .i32 (es.getD k default).i (es.getD k default).il)
  (hB : ∀ k, k < es.length → EB (es.getD k default).says) (hL : es.length ≤ 16384) :
  fO prog 187 #[v] w fun v' w' => ∃ fs : List cO, fs.map cO.says = es.map cO.says ∧ aB w0 w' (Row 101 3 v' fs.length (fs.flatMap cO.enc) • je fs • F) := by
 refine gB func187 ntmps187 ?_
 dsimp only [bf, Nat.reduceAdd]
 refine ay (ah (aV rfl (aA (aj (ay (ah (aV rfl (aA (aj (ay (ay (ah (aN rfl (aX (iM (hv _ (H)) underlying35 rfl) (aN rfl (aA (aj (bC ?_))))))))))))))))))
 refine iw [(6, _), (7, _)] (fun (⟨k, u⟩ : Nat × Value) => [(3, u), (8, .int .i64 (k : Int))]) (fun (⟨k, u⟩ : Nat × Value) W => k ≤ es.length ∧ ∃ fs : List cO, fs.map cO.says = (es.take k).map cO.says ∧ aB w0 W (Row 101 3 u fs.length (fs.flatMap cO.enc) • je fs • F)) (fun (⟨k, u⟩ : Nat × Value) => es.length - k) ((0, .slice none 0 0)) (Sub.cons rfl (Sub.cons rfl (Sub.nil _))) (Sub.cons rfl (Sub.cons rfl (Sub.nil _))) ⟨by omega, [], rfl, (H.oJ none).UW⟩ ?_
 rintro ⟨k, u⟩ w1 ⟨hk, fs, hfs, HL⟩
 dsimp only [List.cons_append, List.nil_append]
 refine ay (ah (aX (eu rfl rfl) (aA (aj (ay (aO rfl (fun h1 => ?_) (fun h1 => ?_)))))))
 ·(try simp only [aH] at h1)
  try (exfalso; first | contradiction | omega)
  all_goals
   refine aP (aj (ay (bC (ay (ah ?_)))))
   obtain ⟨bv, ov, cv, ev⟩ := Rd.BL (hv _ (HL.right.right)) (by omega)
   cases ev
   refine aX (iV underlying35 sizeOf101 rfl rfl (by omega)) (aX (kJ (ys := [_, _, _]) (hv _ (HL.right.right)) (by omega) underlying101 rfl sizeOf101 rfl (nZ cO.yG (by omega) default) rfl) ?_)
   have hkl : k < es.length := by omega
   obtain ⟨f1, f2⟩ := he k hkl
   obtain ⟨hb1, hb2⟩ := hB k hkl
   have hb1 : (es.getD k default).dl.length ≤ 35184372087808 := hb1
   have hb2 : (es.getD k default).il.length ≤ 35184372087808 := hb2
   have hfl : fs.length = k := by have h9 := congrArg List.length hfs; simp at h9; omega
   refine jh (gJ (l := [_, _, _]) HL zeroValue101 rfl) ?_
   rintro _ w2 ⟨b2, rfl, H2⟩
   refine aG (cZ 0 (l' := [_, _, _]) (us := [_, _, _]) H2 sizeOf101 rfl rfl rfl (aC (by first | rfl | assumption) (aC (by first | rfl | exact Rd.one (f1 _ (H2.right.right.right))) (aC (by first | rfl | exact Rd.one (f2 _ (H2.right.right.right))) bV))) rfl rfl) ?_
   rintro _ w3 H3
   refine aA (aj (ah (aN rfl (aX (bW underlying101 rfl sizeOf101 rfl rfl (H3).get.2) (bZ rfl func220 (pK H3 (fun W HW => f1 _ (HW.right.right.right)) (fun W HW => f2 _ (HW.right.right.right)) (by omega) (by omega)) ?_)))))
   rintro _ w4 ⟨d4, s4, rfl, H4⟩
   refine jh (pU H4 underlying35 sizeOf101 zeroValue101 rfl rfl rfl (by decide) (by decide)) ?_
   rintro l5 w5 H5
   refine jh (iC H5.f5 underlying35 (show (prog.info? 101).map (fun i => (i.zero, i.size, i.bytes)) = some (some (.agg #[.int .i64 0, .slice none 0 0, .slice none 0 0]), 3, 56) by kernel_rfl) rfl rfl rfl ((H5).aT) (aC (by first | rfl | assumption) (aC (by first | rfl | exact Rd.one ((H5.f2).aT)) (aC (by first | rfl | exact Rd.one ((H5.f3).aT)) bV))) (by omega) (by omega)) ?_
   rintro l6 w6 H6
   have VT := H6.f2.right
   refine aV rfl (aA (aQ (aj (ah (aX (gy rfl rfl (by omega)) (aN rfl (aA ?_)))))))
   refine fE ((k + 1, l6)) ?_ ?_ ?_ ?_
   ·exact (Sub.cons rfl (Sub.cons rfl (Sub.nil _)))
   ·exact (Sub.cons rfl (Sub.cons rfl (Sub.nil _)))
   ·(try dsimp only)
    first | done | exact ⟨by omega, _, by rw [List.map_append, hfs, Nc (by omega)]; rfl, (aB.sK (VT.f4.right.f4.f2.f4.f4).jG.swap.jG.swap.f3).UW⟩
   ·(try dsimp only); omega
 ·(try simp only [aH] at h1)
  try (exfalso; first | contradiction | omega)
  all_goals
   refine eX (aY (aY (bU (aj (ay (ah (aN rfl (aV rfl (aA (aj (aJ (aI (.inl rfl) results187 rfl ?_))))))))))))
   rw [List.take_of_length_le (by omega)] at hfs
   exact ⟨_, hfs, HL.f2.f2⟩
theorem aB.jZ {es : List cO} (H : aB w0 w (je es • F)) {k : Nat} (hk : k < es.length) : kD w .i32 (es.getD k default).d (es.getD k default).dl ∧ kD w .i32 (es.getD k default).i (es.getD k default).il := let ⟨I, h, hI⟩ := H.tH; ⟨(h k hk).1.rd hI, (h k hk).2.rd hI⟩
theorem vS (H : aB w0 w (Row 101 3 v es.length (es.flatMap cO.enc) • je es • F)) (hB : ∀ k, k < es.length → EB (es.getD k default).says) (hL : es.length ≤ 16384) :
    fO prog 187 #[v] w fun v' w' => ∃ fs : List cO, fs.map cO.says = es.map cO.says ∧ aB w0 w' (Row 101 3 v' fs.length (fs.flatMap cO.enc) • je fs • Row 101 3 v es.length (es.flatMap cO.enc) • je es • F) :=
  Df H (fun W HW => HW.aT) (fun k hk => ⟨fun W HW => (HW.right.jZ hk).1, fun W HW => (HW.right.jZ hk).2⟩) hB hL
theorem rH (H : aB w0 w (y5 v es • F)) (hB : ∀ k, k < es.length → EB (es.getD k default).says) (hL : es.length ≤ 16384) :
    fO prog 187 #[v] w fun v' w' => ∃ fs : List cO, fs.map cO.says = es.map cO.says ∧ aB w0 w' (Row 101 3 v' fs.length (fs.flatMap cO.enc) • je fs • y5 v es • F) :=
  Df H (fun W HW => HW.xI) (fun k hk => ⟨fun W HW => HW.VK hk, fun W HW => HW.VL hk⟩) hB hL
end
end Go.Proofs.YtgndbccogcofjaaGreatDoor
end
section
namespace Go.Proofs.YtgndbccogcofjaaGreatDoor
open Go.RowKit
open _root_.Go.Proofs.Tryz
def aax (G : List (List dX)) (N : List dX) : List dX := (jc G N).flatten.reverse.map Dc
section
variable {w0 w : World} {F : HP} {p : Nat} {G : List (List dX)} {N : List dX} {op : Int} {gv nv v u : Value} {gs : List (Value × List cO)} {now es fs : List cO} {a : Int} {d z : Value} {dl il : List Int}
theorem Dh (H : aB w0 w (dR p G N op • F)) : fO prog 195 #[.pointer (some ⟨p, 0, none⟩)] w fun _ w' => aB w0 w' (dR p [] [] 0 • F) := by
 refine gB func195 ntmps195 ?_
 dsimp only [bf, Nat.reduceAdd]
 refine ay (ah (aN rfl (bZ rfl func181 (iP H) ?_)))
 rintro _ _ ⟨rfl, rfl⟩
 refine aX (kF rfl) (aA (aj (aO rfl (fun h1 => ?_) (fun h => by exfalso; (try simp only [aH] at h); simp at h))))
 (try simp only [aH] at h1)
 obtain ⟨vO, sQ, jl, iZ, iI, pq, mX, CU, CV, F8, kT⟩ := (H).sO
 refine ah (aN rfl (aX (eF (pl := #[(0, 4), (4, 1)]) (#[_, _, _, _, _]) underlying180 zeroValue180 (fun w => by kernel_rfl) rfl (rfl)) (bP rfl (aG (cZ 0 (l' := [_, _, _, _, _]) (us := [_, _, _, _, _]) kT sizeOf180 rfl rfl rfl (aC (by first | rfl | assumption) (aC (by first | rfl | assumption) (aC (by first | rfl | assumption) (aC (by first | rfl | assumption) (aC (by first | rfl | assumption) bV))))) rfl rfl) ?_))))
 rintro _ w3 H3
 refine aA (fZ (.inr rfl) results195 ?_)
 refine aB.oP (gv := .slice none 0 0) (nv := .slice none 0 0) (gs := []) (now := []) ⟨by simp, by decide, by decide, by decide, by simp, by simp⟩ rfl rfl rfl ?_
 exact (((H3.f2.right.f2.right.f2.right.f2.right).oJ none).yJ none).of_eq (by ac_rfl)
theorem aB.Gj (H : aB w0 w (mO gs • F)) {k : Nat} {gl : Value} {uq : List cO} (hk : k < gs.length) (hg : gs.getD k default = (gl, uq)) : aB w0 w (y5 gl uq • mO gs • F) := by
  have := H.Io hk
  rwa [hg] at this
end
end Go.Proofs.YtgndbccogcofjaaGreatDoor
end
section
namespace Go.Proofs.YtgndbccogcofjaaGreatDoor
open Go.RowKit
open _root_.Go.Proofs.Tryz
theorem Nh {G : List (List dX)} {k : Nat} (hk : k < G.length) : G.take (k + 1) = G.take k ++ [G.getD k []] := by
  rw [List.take_succ_eq_append_getElem hk, List.getD_eq_getElem?_getD, List.getElem?_eq_getElem hk]
  rfl
theorem Gl {G : List (List dX)} {g : List dX} (h : g ∈ G) : g.length ≤ (G.map List.length).sum := by
  induction G with
  | nil => cases h
  | cons x G ih =>
    rw [List.map_cons, List.sum_cons]
    rcases List.mem_cons.1 h with rfl | h
    · omega
    · have := ih h; omega
theorem IB {es : List cO} {l : List dX} (h : es.map cO.says = l) (hl : ∀ e ∈ l, EB e) : ∀ k, k < es.length → EB (es.getD k default).says := fun k hk =>
  hl _ (by rw [← h]; exact List.mem_map_of_mem (sH hk))
section
variable {w0 w : World} {F : HP} {p : Nat} {G : List (List dX)} {N : List dX} {op : Int}
theorem Di (H : aB w0 w (dR p G N op • F)) : fO prog 116 #[.pointer (some ⟨p, 0, none⟩)] w fun v w' => ∃ q, v = .pointer (some ⟨q, 0, none⟩) ∧ aB w0 w' (dR q G N op • dR p G N op • F) := by
 refine gB func116 ntmps116 ?_
 dsimp only [bf, Nat.reduceAdd]
 refine ay (ah (aV rfl (aA (aj (ay (ay (ah (aN rfl (bZ rfl func181 (iP H) ?_)))))))))
 rintro _ _ ⟨rfl, rfl⟩
 refine aA (aj (nN (aP (aj (ay ?_)))))
 obtain ⟨vO, sQ, jl, iZ, iI, pq, mX, CU, CV, F8, kT⟩ := (H).sO
 have hLn : iZ.length ≤ 16384 := by omega
 have hBn := IB mX iI.2.2.2.2.2
 refine ah (aN rfl (bP rfl (aX (bW underlying180 rfl sizeOf180 rfl rfl (kT).get.2) (jh (gJ (l := [_, _, _, _, _]) kT zeroValue180 rfl) ?_))))
 rintro _ w3 ⟨b3, rfl, H3⟩
 refine aG (cZ 0 (l' := [_, _, _, _, _]) (us := [_, _, _, _, _]) H3 sizeOf180 rfl rfl rfl (aC (by first | rfl | exact Rd.one ((H3.f3).aT)) (aC (by first | rfl | exact Rd.one ((H3.f5).aT)) (aC (by first | rfl | assumption) (aC (by first | rfl | assumption) (aC (by first | rfl | assumption) bV))))) rfl rfl) ?_
 rintro _ w4 H4
 refine aA (aj (ay (ah (aN rfl (bP rfl (bF 0 underlying180 rfl sizeOf178 rfl (bF 1 underlying178 rfl sizeOf35 rfl (dV underlying35 rfl (H4.f2).get.2 rfl (bZ rfl func187 (vS H4.f6.f6 hBn hLn) ?_)))))))))
 rintro u5 w5 ⟨fs5, Ya, H5⟩
 obtain ⟨es1, rfl⟩ : ∃ q, q = fs5 := ⟨_, rfl⟩
 have hes1 := Ya
 refine bF 0 underlying180 rfl sizeOf178 rfl (bF 0 underlying178 rfl sizeOf176 rfl (aG (aS 0 (l' := [_, _, _, _, _]) H5.f5 sizeOf176 rfl rfl (by first | rfl | assumption) rfl rfl) ?_))
 rintro _ w6 H6
 refine bF 0 underlying180 rfl sizeOf178 rfl (bF 1 underlying178 rfl sizeOf35 rfl (aG (aS 1 (l' := [_, _, _, _, _]) H6 sizeOf35 rfl rfl (by first | rfl | exact Rd.one ((H6.f2).aT)) rfl rfl) ?_))
 rintro _ w7 H7
 refine aA (aj (ay (ay (ah (aN rfl (bP rfl (bF 0 underlying180 rfl sizeOf178 rfl (bF 0 underlying178 rfl sizeOf176 rfl (dV underlying176 rfl (H7.f6).get.2 rfl (aX (iM ((H7.f7).aT) underlying176 rfl) (aN rfl (aA (aj (bC ?_))))))))))))))
 obtain ⟨Sm, Sr, VU, -⟩ := ((H7.f7).aT).form
 subst VU
 refine iw [(3, _), (25, _), (26, _)] (fun (k : Nat) => [(27, .int .i64 (k : Int))]) (fun (k : Nat) W => k ≤ jl.length ∧ ∃ gu, ∃ hs : List (Value × List cO), hs.map (fun g => g.2.map cO.says) = G.take k ∧ aB w0 W (dB b3 (.cells #[gu, u5, .int .i64 op, .int .i64 (dS G N : Nat), .bool true] 180 (0, 0)) • Row 35 1 gu hs.length (hs.map (·.1)) • mO hs • Row 101 3 u5 es1.length (es1.flatMap cO.enc) • je es1 • dB p (.cells #[(.slice Sm (jl.length) Sr), sQ, .int .i64 op, .int .i64 (dS G N : Nat), .bool true] 180 (0, 0)) • Row 35 1 (.slice Sm (jl.length) Sr) jl.length (jl.map (·.1)) • mO jl • Row 101 3 sQ iZ.length (iZ.flatMap cO.enc) • je iZ • F)) (fun (k : Nat) => jl.length - k) (0) (Sub.cons rfl (Sub.cons rfl (Sub.cons rfl (Sub.nil _)))) (Sub.cons rfl (Sub.nil _)) ⟨by omega, _, [], rfl, ((H7.f5.f5.f8.f8.f8.f6.f8.f8).yJ none).TP.f5⟩ ?_
 rintro k w9 ⟨hk, gu, hs, OX, HL⟩
 dsimp only [List.cons_append, List.nil_append]
 refine ay (ah (aX (eu rfl rfl) (aA (aj (ay (aO rfl (fun h1 => ?_) (fun h1 => ?_)))))))
 ·(try simp only [aH] at h1)
  refine aP (aj (ay (bC (ay (ah ?_)))))
  obtain ⟨aaf, aag, rfl⟩ := Rd.pos ((HL.f7).aT) (by omega)
  refine aX (iV underlying176 sizeOf35 rfl rfl (by omega)) ?_
  refine aX (nU (dK underlying35 rfl) rfl (by first | exact Rd.MI ((HL.f7).aT) (by omega) | exact Rd.Vb ((HL.f7).aT) (by omega) | exact Rd.UJ ((HL.f7).aT) (by omega))) ?_
  have hkl : k < jl.length := by omega
  rw [show (jl.map (·.1)).getD k undef = (jl.getD k default).1 from by simp [List.getD_eq_getElem?_getD, hkl]]
  obtain ⟨gl, uq, hg⟩ : ∃ gl uq, jl.getD k default = (gl, uq) := ⟨_, _, rfl⟩
  rw [hg]
  have Uc := HL.f8
  have Ud := Uc.Gj hkl hg
  have hge : uq.map cO.says = G.getD k [] := by
   rw [← pq]
   have h9 : (jl.map (fun g => g.2.map cO.says)).getD k [] = (jl.getD k default).2.map cO.says := by simp [List.getD_eq_getElem?_getD, hkl]
   rw [h9, hg]
  have hgm : G.getD k [] ∈ G := sH (by omega)
  have hBg := IB hge (iI.2.2.2.2.1 _ hgm)
  have VW : uq.length ≤ 16384 := by
   have h8 := iI.2.1
   unfold dS at h8
   have h7 := congrArg List.length hge
   rw [List.length_map] at h7
   have h6 := Gl hgm
   omega
  have Yb := congrArg List.length OX
  rw [List.length_map, List.length_take] at Yb
  refine aV rfl (aA (aj ?_))
  have Sv := Ud.drew
  have Dj := aB.kp (Sv.f11.f11.f11.f11.f11.f11.f11.f11.f11.f11.f11)
  refine yZ [2] Dj rfl (gV 0 rfl Dj 0 underlying180 rfl sizeOf178 rfl (gV 1 rfl Dj 0 underlying178 rfl sizeOf176 rfl (jk 2 rfl Dj (fun W hW => jP underlying176 rfl ((Kp.h hW).f3).get.2 rfl) (iF 3 rfl Dj rfl (kE 4 rfl (wW rfl func187 (rH Sv hBg VW)) ?_)))))
  rintro Xc w12 ⟨OW, Sl, wP⟩
  obtain ⟨es2, rfl⟩ : ∃ q, q = OW := ⟨_, rfl⟩
  have hes2 := Sl
  have yK := aB.kp (wP.f13.f13.f13.f13.f13.f13.f13.f13.f13.f13.f13.f13.f13)
  refine dQ yK (fun W hW => (Kp.h hW).right.right.f11.f11.f11.f11.f11.f11.f11.f11.f11.f11.f11) ?_
  refine kE 5 rfl (nV (vs := [_]) wP underlying176 sizeOf35 zeroValue35 rfl rfl rfl (by decide) (aC (by first | rfl | exact Rd.one ((wP).aT)) bV)) ?_
  rintro l13 MN uO
  have wZ := aB.kp (uO.f14.f14.f14.f14.f14.f14.f14.f14.f14.f14.f14.f14.f14.f14)
  refine dQ wZ (fun W hW => (Kp.h hW).right.f13.f13.f13.f13.f13.f13.f13.f13.f13.f13.f13.f13.f13) ?_
  refine kE 6 rfl (iC uO.f7 underlying176 (show (prog.info? 35).map (fun i => (i.zero, i.size, i.bytes)) = some (some (.slice none 0 0), 1, 24) by kernel_rfl) rfl rfl rfl ((uO).aT) (aC (by first | rfl | exact Rd.one ((uO.f2).aT)) bV) (by omega) (by omega)) ?_
  rintro l14 Jw xE
  have Ue := xE.f2.right
  have xg := aB.kp (Ue.f13.f13.f13.f13.f13.f13.f13.f13.f13.f13.f13.f13.f13)
  refine fQ xg (by kernel_rfl) ?_
  refine gV 7 rfl xg 0 underlying180 rfl sizeOf178 rfl (gV 8 rfl xg 0 underlying178 rfl sizeOf176 rfl ?_)
  refine fU 9 rfl (by kernel_rfl) (aS 0 (l' := [_, _, _, _, _]) Ue.f6 sizeOf176 rfl rfl (by first | rfl | exact Rd.one ((Ue).aT)) rfl rfl) ?_
  rintro _ w16 rZ
  have IC := aB.kp (rZ.f13.f13.f13.f13.f13.f13.f13.f13.f13.f13.f13.f13.f13)
  refine fQ IC (by kernel_rfl) ?_
  have X := aB.qj (es := es2) (rZ.f5.right.f12.f12.f7.f12.f12.f12.f12.f8.f12.f10.f12.f12).deep
  have HN := (aB.sN X.swap).TP.f3
  have hnew : (hs ++ [(Xc, es2)]).map (fun g => g.2.map cO.says) = G.take (k + 1) := by rw [List.map_append, OX, Nh (by omega), ← hge, ← hes2]; rfl
  refine pO (aQ (aj (ah (aX (gy rfl rfl (by omega)) (aN rfl (aA ?_))))))
  refine fE (k + 1) ?_ ?_ ?_ ?_
  ·exact (Sub.cons rfl (Sub.nil _))
  ·exact (Sub.cons rfl (Sub.cons rfl (Sub.cons rfl (Sub.nil _))))
  ·(try dsimp only)
   first | done | exact ⟨by omega, _, _, hnew, HN⟩
  ·(try dsimp only); omega
 ·(try simp only [aH] at h1)
  refine eX (aY (aY (bU (aj (ay (ah (aV rfl (aA (aj (aJ (aI (.inl rfl) results116 rfl ?_)))))))))))
  rw [List.take_of_length_le (by omega)] at OX
  have X := aB.jw (gs := hs) (now := es1) iI OX (hes1.trans mX) rfl (HL.f10.f10.f10.f10.f10.f10.f10.f10.f10.f10)
  have Y := aB.jw iI pq mX rfl X.f6.f6.f6.f6.f6
  exact ⟨_, rfl, Y.swap⟩
end
end Go.Proofs.YtgndbccogcofjaaGreatDoor
end
section
namespace Go.Proofs.YtgndbccogcofjaaGreatDoor
open Go.RowKit
def xJ (G : List (List dX)) (N : List dX) : List (List dX) := (jc G N).reverse
def Gm (N : List dX) : List (List dX) := if N = [] then [] else [N]
theorem OY (N : List dX) : (Gm N).length ≤ 1 := by unfold Gm; split <;> simp
theorem QV (G : List (List dX)) (N : List dX) : xJ G N = Gm N ++ G.reverse := by
  unfold xJ Gm jc; split <;> simp
end Go.Proofs.YtgndbccogcofjaaGreatDoor
end
section
namespace Go.Proofs.YtgndbccogcofjaaGreatDoor
open Go.RowKit
open _root_.Go.Proofs.Tryz
abbrev oQ := ByteArray × Int
def lC (x : oQ) : List Value := [.string x.1, .int .i64 x.2]
theorem zB (x : oQ) : (lC x).length = 2 := rfl
def VX (x : oQ) : Prop := x.1.size ≤ 16384 ∧ 0 ≤ x.2
def VY (hl : List oQ) (base most : Int) : Prop := hl.length ≤ 4096 ∧ 1 ≤ base ∧ base ≤ 4611686018427387904 ∧ (hl.length : Int) ≤ most ∧ most ≤ 4096 ∧ ∀ x ∈ hl, VX x
def fC (p : Nat) (hl : List oQ) (base most : Int) : HP := rD fun (v : Value) => fact (VY hl base most) • dB p (.cells #[v, .int .i64 base, .int .i64 most] 132 (0, 0)) • Row 128 2 v hl.length (hl.flatMap lC)
section
variable {P : Program} {L : List (Nat × Value)} {w0 w : World} {F : HP} {ty : TypeId} {p : Nat} {hl : List oQ} {base most : Int} {v : Value}
theorem Dk {t e sz : Nat} {z : Value} (H : aB w0 w F) (ht : P.underlying t = some (.slice e)) (hs : ∀ w, (sizeOf e).run P w = .ok sz w) (hz : ∀ w, (zeroValue e).run P w = .ok z w) :
    pX P L (.buildSlice t 0 #[]) ty w fun v w' => aB w0 w' (Row e sz v 0 [] • F) := by
  refine nM (v := .slice (some ⟨w.heap.size, 0, none⟩) 0 0) (w' := w.alloc (.cells #[] e)) ?_ ?_
  · intro ρ hρ d pos lu g
    simp only [execOp, Instr.buildSlice, Sem.run_bind, run_underlying ht, Result.andThen_ok, hs]
    have h0 : Array.map (fun (_ : Nat) => (default : Value)) (Array.range 0) = #[] := Array.eq_empty_of_size_eq_zero (by simp)
    simp [Instr.fill, newRow, h0]
  · exact (H.alloc _).right.jo _
theorem aB.hist (H : aB w0 w (fC p hl base most • F)) : ∃ v, VY hl base most ∧ aB w0 w (dB p (.cells #[v, .int .i64 base, .int .i64 most] 132 (0, 0)) • Row 128 2 v hl.length (hl.flatMap lC) • F) := by
  obtain ⟨v, H⟩ := H.lK
  obtain ⟨h, H⟩ := H.flat.fact
  exact ⟨v, h, H.flat⟩
theorem aB.uy (h : VY hl base most) (H : aB w0 w (dB p (.cells #[v, .int .i64 base, .int .i64 most] 132 (0, 0)) • Row 128 2 v hl.length (hl.flatMap lC) • F)) : aB w0 w (fC p hl base most • F) :=
  aB.gY v (aB.deep (aB.jF h H.deep))
theorem Lj {hl : List oQ} : ∀ x ∈ hl.flatMap lC, x.oneCell' = true := by
  intro x hx
  obtain ⟨e, _, hx⟩ := List.mem_flatMap.1 hx
  simp [lC] at hx
  rcases hx with rfl | rfl <;> rfl
theorem QW : (prog.info? 128).map (fun i => (i.zero, i.size, i.bytes)) = some (some (.agg #[.string .empty, .int .i64 0]), 2, 24) := by kernel_rfl
theorem yM (H : aB w0 w F) (hr : Jk w0 F 2 v hl.length (hl.flatMap lC)) (hb : hl.length ≤ 1099511627776) :
    fO prog 118 #[v] w fun v' w' => aB w0 w' (Row 128 2 v' hl.length (hl.flatMap lC) • F) := by
  obtain ⟨hlen, a, c, rfl, h1, h2, h3⟩ := hr w H
  refine gB func118 ntmps118 ?_
  dsimp only [bf, Nat.reduceAdd]
  refine ay (ah (aV rfl (aA (aj (ay (ay (ah (aN rfl (aX (vC underlying47 rfl rfl) (aA (aj (aO rfl (fun h1 => ?_) (fun h1 => ?_)))))))))))))
  · (try simp only [aH] at h1)
    try (exfalso; first | contradiction | omega)
    all_goals
      refine ay (ah (aV rfl (aA (aj (aJ (aK (aI (.inl rfl) results118 rfl ?_)))))))
      obtain rfl : a = none := by simpa using h1
      obtain rfl : hl = [] := by
        cases hl with
        | nil => rfl
        | cons x l => obtain ⟨b, o, e, _⟩ := h3 (by simp); cases e
      exact H.jo none
  · (try simp only [aH] at h1)
    try (exfalso; first | contradiction | omega)
    all_goals
      refine aP (aj (ay (ah (jh (Dk H underlying47 sizeOf128 zeroValue128) ?_))))
      rintro _ w1 H1
      refine aN rfl (jh (iC H1 underlying47 QW rfl rfl rfl (hr.under _ H1) Lj (by omega) (by omega)) ?_)
      rintro _ w2 H2
      refine aV rfl (aA (aj (aJ (aI (.inl rfl) results118 rfl ?_))))
      exact H2.of_eq (by rw [Nat.zero_add, List.nil_append])
theorem rJ (H : aB w0 w (fC p hl base most • F)) : fO prog 117 #[.pointer (some ⟨p, 0, none⟩)] w fun v w' => v = .bool false ∧ w = w' := by
 refine gB func117 ntmps117 ?_
 dsimp only [bf, Nat.reduceAdd]
 refine ay (ah (aV rfl (aA (aj (ay ?_)))))
 obtain ⟨Uf, xK, Dl⟩ := (H).hist
 refine ah (aN rfl (aX (fA underlying33 rfl rfl) (fK rfl (fun h1 => ?_) (fun h1 => ?_))))
 ·(try simp only [aH] at h1)
  try (exfalso; first | contradiction | omega)
  all_goals
   refine bD (bD (bD (bD (bD (bD (fG rfl rfl (aV rfl (aA (aj (aJ (aI (.inl rfl) results117 rfl ?_)))))))))))
   exact ⟨by rw [show (base == 0) = false from by rw [beq_eq_false_iff_ne]; have := xK.2.1; omega], rfl⟩
 ·(try simp only [aH] at h1)
  try (exfalso; first | contradiction | omega)
  all_goals
   refine aZ (aN rfl (aZ (bP rfl (aZ (bF 0 underlying132 rfl sizeOf130 rfl (aZ (bF 1 underlying130 rfl sizeOf2 rfl (aZ (dV underlying2 rfl (Dl).get.2 rfl (aZ (aX (dO rfl rfl) (eG rfl rfl (aV rfl (aA (aj (aJ (aI (.inl rfl) results117 rfl ?_)))))))))))))))))
   exact ⟨by rw [show (base == 0) = false from by rw [beq_eq_false_iff_ne]; have := xK.2.1; omega], rfl⟩
theorem Gn {n : Int} (H : aB w0 w F) (hn : 0 ≤ n ∧ n ≤ 4096) : fO prog 107 #[.int .i64 n] w fun v w' => ∃ p, v = .tuple #[.pointer (some ⟨p, 0, none⟩), .int .i64 0] ∧ aB w0 w' (fC p [] 1 n • F) := by
 refine gB func107 ntmps107 ?_
 dsimp only [bf, Nat.reduceAdd]
 refine ay (ah (aV rfl (aV rfl (aA (aj (ay (ay (ah (aN rfl (aX (eu rfl rfl) (fK rfl (fun h1 => ?_) (fun h1 => ?_))))))))))))
 ·(try simp only [aH] at h1)
  try (exfalso; first | contradiction | omega)
  all_goals
   refine bD (bD (fG rfl rfl (aA (aj (uX (ay (ah (aV rfl (aV rfl (aA (aj (aJ (aK (lH (.inl rfl) results107 rfl rfl ?_))))))))))))))
   exact ⟨_, rfl, aB.uy (v := .slice none 0 0) ⟨by simp, by decide, by decide, by simp; omega, by omega, by simp⟩ ((H.jo none).swap)⟩
 ·(try simp only [aH] at h1)
  try (exfalso; first | contradiction | omega)
  all_goals
   refine aZ (aN rfl (aZ (aX (dn rfl rfl) (eG rfl rfl (aA (aj (aO rfl (fun h2 => ?_) (fun h2 => ?_))))))))
   ·(try simp only [aH] at h2)
    try (exfalso; first | contradiction | omega)
    all_goals
     refine ay (ah (aV rfl (aV rfl (aA (aj (aJ (aK (lH (.inl rfl) results107 rfl rfl ?_))))))))
     exact ⟨_, rfl, aB.uy (v := .slice none 0 0) ⟨by simp, by decide, by decide, by simp; omega, by omega, by simp⟩ ((H.jo none).swap)⟩
   ·(try simp only [aH] at h2)
    try (exfalso; first | contradiction | omega)
    all_goals
     refine aP (aj (ay (ah (aN rfl (aX (eF (pl := #[(0, 1), (1, 1), (2, 1)]) (#[_, _, _]) underlying130 zeroValue130 (fun w => by kernel_rfl) rfl (rfl)) (aX (eF (pl := #[(0, 3)]) (#[_, _, _]) underlying132 zeroValue132 (fun w => by kernel_rfl) rfl (rfl)) (jh (iL (l := [_, _, _]) H rfl rfl) ?_)))))))
     rintro _ w1 ⟨b1, rfl, H1⟩
     refine aV rfl (aV rfl (aA (aj (aJ (lH (.inl rfl) results107 rfl rfl ?_)))))
     exact ⟨_, rfl, aB.uy (v := .slice none 0 0) ⟨by simp, by decide, by decide, by simp; omega, by omega, by simp⟩ ((H1.jo none).swap)⟩
theorem mP (H : aB w0 w (fC p hl base most • F)) : fO prog 102 #[.pointer (some ⟨p, 0, none⟩)] w fun v w' => v = .int .i64 hl.length ∧ aB w0 w' (fC p hl base most • F) := by
 refine gB func102 ntmps102 ?_
 dsimp only [bf, Nat.reduceAdd]
 refine ay (ah (aV rfl (aA (aj (ay (ay (ah (aN rfl (bZ rfl func117 (rJ H) ?_)))))))))
 rintro _ _ ⟨rfl, rfl⟩
 refine aA (aj (nN (aP (aj (ay ?_)))))
 obtain ⟨Uf, xK, Dl⟩ := (H).hist
 refine ah (aN rfl (bP rfl (bF 0 underlying132 rfl sizeOf130 rfl (bF 0 underlying130 rfl sizeOf47 rfl (dV underlying47 rfl (Dl).get.2 rfl (aX (iM ((Dl.f2).aT) underlying47 rfl) (aV rfl (aA (aj (aJ (aI (.inl rfl) results102 rfl ?_)))))))))))
 have OC := Dl.f2.f2
 have OD := aB.uy xK OC
 exact ⟨rfl, OD⟩
theorem mQ (H : aB w0 w (fC p hl base most • F)) : fO prog 45 #[.pointer (some ⟨p, 0, none⟩)] w fun v w' => ∃ q, v = .pointer (some ⟨q, 0, none⟩) ∧ aB w0 w' (fC q hl base most • fC p hl base most • F) := by
 refine gB func45 ntmps45 ?_
 dsimp only [bf, Nat.reduceAdd]
 refine ay (ah (aV rfl (aA (aj (ay (ay (ah (aN rfl (bZ rfl func117 (rJ H) ?_)))))))))
 rintro _ _ ⟨rfl, rfl⟩
 refine aA (aj (nN (aP (aj (ay ?_)))))
 obtain ⟨Uf, xK, Dl⟩ := (H).hist
 have hcl := xK.1
 have Iz := Dl.drew
 have iQ := aB.kp (Iz.f2.f2)
 refine yZ [4, 10, 15] iQ rfl (iF 0 rfl iQ rfl (jQ 1 rfl iQ rfl (gV 2 rfl iQ 0 underlying132 rfl sizeOf130 rfl (gV 3 rfl iQ 0 underlying130 rfl sizeOf47 rfl (jk 4 rfl iQ (fun W hW => jP underlying47 rfl ((Kp.h hW)).get.2 rfl) (iF 6 rfl iQ rfl (jQ 7 rfl iQ rfl (gV 8 rfl iQ 0 underlying132 rfl sizeOf130 rfl (gV 9 rfl iQ 1 underlying130 rfl sizeOf2 rfl (jk 10 rfl iQ (fun W hW => jP underlying2 rfl ((Kp.h hW)).get.2 rfl) (iF 11 rfl iQ rfl (jQ 12 rfl iQ rfl (gV 13 rfl iQ 0 underlying132 rfl sizeOf130 rfl (gV 14 rfl iQ 2 underlying130 rfl sizeOf3 rfl (jk 15 rfl iQ (fun W hW => jP underlying3 rfl ((Kp.h hW)).get.2 rfl) (kE 5 rfl (wW rfl func118 (yM Iz (fun W HW => (HW.f2).aT) (by omega))) ?_))))))))))))))))
 rintro u3 w3 H3
 have Ef := aB.kp (H3.f3.f3.f3)
 refine dQ Ef (fun W hW => (Kp.h hW).right.f2.f2) ?_
 obtain ⟨au3, cu3, X6, -⟩ := ((H3).aT).form
 subst X6
 refine jg 16 rfl Ef (fun _ => eF (pl := #[(0, 1), (1, 1), (2, 1)]) (#[_, _, _]) underlying130 zeroValue130 (fun w => by kernel_rfl) rfl (rfl)) (jg 17 rfl Ef (fun _ => eF (pl := #[(0, 3)]) (#[_, _, _]) underlying132 zeroValue132 (fun w => by kernel_rfl) rfl (rfl)) (kE 18 rfl (iL (l := [_, _, _]) H3 rfl rfl) ?_))
 rintro _ w4 ⟨b4, rfl, H4⟩
 have wR := aB.kp (H4.f4.f4.f4.f4)
 refine fQ wR (by kernel_rfl) ?_
 refine jg 19 rfl wR (fun _ => gG rfl) (pO (aj (aJ (aI (.inl rfl) results45 rfl ?_))))
 have Ug := H4.f4.f4
 have Uh := aB.uy xK Ug
 exact ⟨_, rfl, aB.uy xK Uh.f3.f3⟩
end
end Go.Proofs.YtgndbccogcofjaaGreatDoor
end
