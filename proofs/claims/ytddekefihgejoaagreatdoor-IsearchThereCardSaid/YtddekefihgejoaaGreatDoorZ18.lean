import Derived.Test.YtddekefihgejoaaGreatDoorZ2
import Derived.Test.YtddekefihgejoaaGreatDoorZ16
import Derived.Test.YtddekefihgejoaaGreatDoorZ11
import Derived.Test.YtddekefihgejoaaGreatDoorZ17
import Derived.Test.YtddekefihgejoaaGreatDoorZ8
import Derived.Test.YtddekefihgejoaaGreatDoorZ7
set_option linter.unusedSimpArgs false
set_option linter.unusedVariables false
/- Texts of mine, joined, their names in short: IsL IsL2 IsS IsN IsA IsA2 FieldVal. -/
section
namespace Go.Proofs.YtddekefihgejoaaGreatDoor
open Go.RowKit
open _root_.Go.Proofs.Tryz
def BH (s : ByteArray) : List Int := rC (oM s)
def setAt (l : List (List Int)) (x : Int × ByteArray) : List (List Int) := l.set x.1.toNat (BH x.2)
def bH.tY (s : bH) : List (List Int) := (s.hl.map fun x => BH x.1) ++ [[]]
def bH.lines (s : bH) : List (List Int) := (s.saved.foldl setAt s.tY).set s.c.place.toNat s.c.L
theorem FY (l : List (List Int)) (x : Int × ByteArray) : (setAt l x).length = l.length := by unfold setAt; simp
theorem pW (xs : List (Int × ByteArray)) : ∀ l : List (List Int), (xs.foldl setAt l).length = l.length := by
  induction xs with
  | nil => intro l; rfl
  | cons x xs ih => intro l; rw [List.foldl_cons, ih, FY]
theorem bH.vT (s : bH) : s.tY.length = s.hl.length + 1 := by unfold bH.tY; simp
theorem bH.Aw (s : bH) : s.lines.length = s.hl.length + 1 := by unfold bH.lines; rw [List.length_set, pW, s.vT]
theorem JL {hl : List lC} {tx : Int → Option ByteArray} {place : Int} {n : Nat} {x : Int × ByteArray} (h : x ∈ jG hl tx place n) : (0 ≤ x.1 ∧ x.1 < n) ∧ x.2 = fF hl tx x.1 := by
  unfold jG at h
  obtain ⟨k, hk, rfl⟩ := List.mem_map.1 h
  have := (List.mem_filter.1 hk).1
  rw [List.mem_range] at this
  exact ⟨by dsimp only; omega, rfl⟩
theorem BI {hl : List lC} {tx : Int → Option ByteArray} {place : Int} {x : Int × ByteArray} (h : x ∈ kY hl tx place) : (0 ≤ x.1 ∧ x.1 ≤ hl.length) ∧ x.2 = fF hl tx x.1 := by
  unfold kY at h
  rcases List.mem_append.1 h with h | h
  · have := JL h; exact ⟨by omega, this.2⟩
  · split at h
    · obtain rfl := List.mem_singleton.1 h; exact ⟨by dsimp only; omega, rfl⟩
    · cases h
theorem JM (hl : List lC) (tx : Int → Option ByteArray) (place : Int) : (kY hl tx place).length ≤ hl.length + 1 := by
  unfold kY
  have := mF hl tx place hl.length
  rw [List.length_append]
  split <;> simp <;> omega
theorem rG.set {I : Hp} {k : IntKind} {vs : List Value} {ls : List (List Int)} {v : Value} {l : List Int} (h : rG I k vs ls) (g : xC I k v l) (j : Nat) : rG I k (vs.set j v) (ls.set j l) := by
  refine ⟨by simp [h.1], fun i hi => ?_⟩
  have hv := h.1
  rw [List.length_set] at hi
  by_cases e : j = i
  · subst e
    rw [List.getD_eq_getElem?_getD, List.getD_eq_getElem?_getD, List.getElem?_set_self (by omega), List.getElem?_set_self hi]
    exact g
  · have h1 := h.2 i hi
    rw [List.getD_eq_getElem?_getD, List.getD_eq_getElem?_getD] at h1 ⊢
    rw [List.getElem?_set_ne e, List.getElem?_set_ne e]
    exact h1
theorem JO {α β : Type} (f : β → α → β) (s : β) (l : List α) (d : α) {k : Nat} (h : k < l.length) : (l.take (k + 1)).foldl f s = f ((l.take k).foldl f s) (l.getD k d) := by
  rw [List.take_succ_eq_append_getElem h, List.foldl_append, List.getD_eq_getElem?_getD, List.getElem?_eq_getElem h]; rfl
theorem EU {α β : Type} [Inhabited α] (f : α → β) (l : List α) {k : Nat} (h : k < l.length) : (l.take (k + 1)).map f = (l.take k).map f ++ [f (l.getD k default)] := by
  rw [List.take_succ_eq_append_getElem h, List.map_append, List.getD_eq_getElem?_getD, List.getElem?_eq_getElem h]; rfl
section
variable {w0 w : World} {F : HP} {k : IntKind} {v : Value} {l : List Int} {vs : List Value} {ls : List (List Int)} {p : Nat} {hl : List lC} {base most : Int}
theorem aB.JQ (H : aB w0 w (pU k v l • sF k vs ls • F)) (j : Nat) : aB w0 w (sF k (vs.set j v) (ls.set j l) • F) := H.EH (ru (fun I h g => g.set h j) F)
def Nv (c : Nat) (ls : List (List Int)) : HP := qN fun (x : Value × List Value) => dh c (.cells #[x.1] 22 (0, 0)) • Row 23 1 x.1 ls.length x.2 • sF .i32 x.2 ls
theorem aB.Zc {c : Nat} (H : aB w0 w (Nv c ls • F)) : ∃ u us, aB w0 w (dh c (.cells #[u] 22 (0, 0)) • Row 23 1 u ls.length us • sF .i32 us ls • F) := by
  obtain ⟨⟨u, us⟩, H⟩ := H.lD
  exact ⟨u, us, H.of_eq (by simp only [bI])⟩
theorem aB.Hg {c n : Nat} {u : Value} {us : List Value} (hn : n = ls.length) (H : aB w0 w (dh c (.cells #[u] 22 (0, 0)) • Row 23 1 u n us • sF .i32 us ls • F)) : aB w0 w (Nv c ls • F) :=
  aB.gK (u, us) (by subst hn; exact H.of_eq (by simp only [bI]))
theorem aB.JR (H : aB w0 w F) : aB w0 w (pU k (.slice none 0 0) [] • F) := H.wY fun I => ⟨none, 0, rfl, by simp, by decide, fun h => by simp at h⟩
theorem LK (H : aB w0 w F) (hv : v.oneCell' = true) : gG prog 105 #[v] w fun v' w' => ∃ b, v' = .func (.func 151) #[] #[.pointer (some ⟨b, 0, none⟩)] ∧ aB w0 w' (dh b (.cells #[v] 24 (0, 0)) • F) := by
 refine iF func105 ntmps105 ?_
 dsimp only [bg, Nat.reduceAdd]
 refine ay (ah (iw (jd (l := [_]) H rfl (by first | rfl | exact wX (by first | rfl | assumption))) ?_))
 rintro _ w1 ⟨b1, rfl, H1⟩
 refine aW rfl (aA (aj (ay (ah (aU (qR rfl rfl) (aW rfl (aA (aj (aK (aQ (.inl rfl) results105 rfl ?_))))))))))
 exact ⟨_, rfl, H1⟩
theorem Um (b : Nat) : Iter prog w0 (.func (.func 151) #[] #[.pointer (some ⟨b, 0, none⟩)]) (dh b (.cells #[v] 24 (0, 0)) • Row 84 2 v hl.length (hl.flatMap jM)) hl.length
  (fun k vs A => vs = [.int .i64 (k : Int), .agg (jM (hl.getD k default)).toArray] ∧ A = emp) := by
 intro l J X w hy H
 refine ⟨151, [], [.pointer (some ⟨b, 0, none⟩)], _, _, rfl, func151, rfl, rfl, ?_⟩
 have H1 : aB w0 w (dh b (.cells #[v] 24 (0, 0)) • Row 84 2 v hl.length (hl.flatMap jM) • J 0) := H.of_eq (by ac_rfl)
 obtain ⟨a, c, hv, hc1, hc2, _⟩ := (H1.swap.aT).form
 subst hv
 simp only [List.nil_append, List.cons_append]
 refine iF func151 ntmps151 ?_
 dsimp only [bg, Nat.reduceAdd]
 refine ay (ah (eu underlying24 rfl (H1).get.2 rfl (aU (eX ((H1.f2).aT) underlying24 rfl) (aI rfl (aA (aj (bf ?_)))))))
 refine eP [(0, _), (5, _), (6, _)] (fun (k : Nat) => [(7, .int .i64 (k : Int))]) (fun (k : Nat) W => k ≤ hl.length ∧ aB w0 W (dh b (.cells #[.slice a hl.length c] 24 (0, 0)) • Row 84 2 (.slice a hl.length c) hl.length (hl.flatMap jM) • J k)) (fun (k : Nat) => hl.length - k) (0) (Sub.cons rfl (Sub.cons rfl (Sub.cons rfl (Sub.nil _)))) (Sub.cons rfl (Sub.nil _)) ⟨by omega, H1⟩ ?_
 rintro k w1 ⟨hk, HL⟩
 dsimp only [List.cons_append, List.nil_append]
 refine ay (ah (aU (dB rfl rfl) (aA (aj (ay (aP rfl (fun h1 => ?_) (fun h1 => ?_)))))))
 ·(try simp only [aG] at h1)
  try (exfalso; first | contradiction | omega)
  all_goals
   refine aO (aj (ay (bf (ay ?_))))
   have hkl : k < hl.length := by omega
   refine ah (aI rfl ?_)
   obtain ⟨bv, ov, cv, ev⟩ := Rd.kV ((HL.f2).aT) (by omega)
   cases ev
   refine aU (bY underlying24 sizeOf84 rfl rfl (by omega)) (aU (jf (ys := [_, _]) ((HL.f2).aT) (by omega) underlying84 rfl sizeOf84 rfl (kC uH (by omega) default) rfl) (iw (cZ (l := [_, _]) HL zeroValue84 rfl) ?_))
   rintro _ w2 ⟨b2, rfl, H2⟩
   refine aW rfl (aJ (bG 0 (l' := [_, _]) (us := [_, _]) H2 sizeOf84 rfl rfl rfl (aC (by first | rfl | assumption) (aC (by first | rfl | assumption) bn)) rfl rfl) ?_)
   rintro _ w3 H3
   refine aA (aj (ay (ah (aI rfl (aI rfl (aU (bV underlying84 rfl sizeOf84 rfl rfl (H3).get.2) (iw (CP rfl rfl (hy k (by omega) _ _ ⟨rfl, rfl⟩ (Row 84 2 (.slice (some ⟨bv, ov, none⟩) hl.length c) hl.length (hl.flatMap jM) • dh b (.cells #[.slice (some ⟨bv, ov, none⟩) hl.length c] 24 (0, 0))) _ ((aB.yN H3.right.f2.f2).of_eq (by ac_rfl))).bool) ?_)))))))
   rintro _ w4 ⟨t, rfl, ht1, ht2⟩
   refine aU (gQ rfl) (aA (aj (aP rfl (fun h2 => ?_) (fun h2 => ?_))))
   ·(try simp only [aG] at h2)
    try (exfalso; first | contradiction | omega)
    all_goals
     have HX := ht2 (by simpa using h2)
     refine aK (aX (aN (aN (aX (gB (.inl rfl) results151 ?_)))))
     exact .inr (HX.of_eq (by ac_rfl))
   ·(try simp only [aG] at h2)
    try (exfalso; first | contradiction | omega)
    all_goals
     have HN : aB w0 w4 (dh b (.cells #[.slice (some ⟨bv, ov, none⟩) hl.length c] 24 (0, 0)) • Row 84 2 (.slice (some ⟨bv, ov, none⟩) hl.length c) hl.length (hl.flatMap jM) • J (k + 1)) := by
      have h9 := ht1 (by simpa using h2)
      exact h9.of_eq (by ac_rfl)
     refine aO (aH (aj (ah (aU (dG rfl rfl (by omega)) (aI rfl (aA ?_))))))
     refine cO (k + 1) ?_ ?_ ?_ ?_
     ·exact (Sub.cons rfl (Sub.nil _))
     ·exact (Sub.cons rfl (Sub.cons rfl (Sub.cons rfl (Sub.nil _))))
     ·(try dsimp only)
      first | done | exact ⟨by omega, HN.f2.f2⟩
     ·(try dsimp only); omega
 ·(try simp only [aG] at h1)
  try (exfalso; first | contradiction | omega)
  all_goals
   refine dK (aV (aV (bD (gB (.inr rfl) results151 ?_))))
   obtain rfl : k = hl.length := by omega
   exact .inl (HL.of_eq (by ac_rfl))
theorem Hl (H : aB w0 w (dn p hl base most • F)) : gG prog 50 #[.pointer (some ⟨p, 0, none⟩)] w fun v' w' => ∃ b v, v' = .func (.func 151) #[] #[.pointer (some ⟨b, 0, none⟩)] ∧
  aB w0 w' (dh b (.cells #[v] 24 (0, 0)) • Row 84 2 v hl.length (hl.flatMap jM) • dn p hl base most • F) := by
 refine iF func50 ntmps50 ?_
 dsimp only [bg, Nat.reduceAdd]
 refine ay (ah (aW rfl (aA (aj (ay (ah (aW rfl (aA (aj (ay (ay (ah (aI rfl (dH rfl func103 (oV H) ?_))))))))))))))
 rintro _ _ ⟨rfl, rfl⟩
 refine aU (gQ rfl) (aA (aj (zM ?_)))
 obtain ⟨QA, uI, vK⟩ := (H).hist
 have hcl := uI.1
 refine ah (aI rfl (bQ rfl (bC 0 underlying176 rfl sizeOf174 rfl (bC 0 underlying174 rfl sizeOf24 rfl (eu underlying24 rfl (vK).get.2 rfl (dH rfl func104 (vJ vK (fun W HW => (HW.f2).aT) (by omega)) ?_))))))
 rintro u3 w3 H3
 refine aW rfl (aA (aj (ay (ah (aI rfl (dH rfl func105 (LK H3 (Rd.one ((H3).aT))) ?_))))))
 rintro _ w4 ⟨bA4, rfl, H4⟩
 refine aW rfl (aA (aj (aK (aQ (.inl rfl) results50 rfl ?_))))
 have VD := H4.f4.f4
 have VE := aB.qx uI VD
 exact ⟨_, _, rfl, VE.f3.f3⟩
end
end Go.Proofs.YtddekefihgejoaaGreatDoor
end
section
namespace Go.Proofs.YtddekefihgejoaaGreatDoor
open Go.RowKit
open _root_.Go.Proofs.Tryz
section
variable {w0 w : World} {F : HP} {e : Nat} {s : bH}
theorem OT {hl : List lC} (h : ∀ x ∈ hl, Qz x) {k : Nat} (hk : k < hl.length) : (hl.getD k default).1.size ≤ 16384 := by
  rw [List.getD_eq_getElem?_getD, List.getElem?_eq_getElem hk]; exact (h _ (List.getElem_mem hk)).1
theorem Ho (H : aB w0 w (dO e s • F)) (hT : rZ w0) : gG prog 13 #[.pointer (some ⟨e, 0, none⟩)] w fun v w' => ∃ us, aB w0 w' (Row 23 1 v s.lines.length us • sF .i32 us s.lines • dO e s • F) := by
 obtain ⟨hok, hlk⟩ : Am s.hl s.c ∧ VB s.hl s.base s.most := by
  obtain ⟨qy, qA, qB, qC, qE, qF, qG, qH, oq, mM, mO, mP, mQ, mV, mW, mX, mY, mZ, ng, ni, dI, bM, ig, eH⟩ := (H).D9
  obtain ⟨hv9, hk9, _⟩ := (eH.f7).hist
  exact ⟨dI.1, hk9⟩
 have hln := hlk.1
 have hpl := hok.1
 have hsl : s.saved.length ≤ s.hl.length + 1 := JM _ _ _
 have hpl2 := hok.2.1
 refine iF func13 ntmps13 ?_
 dsimp only [bg, Nat.reduceAdd]
 refine ay (ah (aW rfl (aA (aj (ay (ah (aI rfl (dH rfl func49 (JA H) ?_))))))))
 rintro _ w1 ⟨q1, rfl, H1⟩
 refine aW rfl (aA (aj (ay (ay (ah (aI rfl (aU (iI underlying65 rfl rfl) (aA (aj (nY (aO (aj (ay (ah (iw (cZ (l := [_]) H1 zeroValue22 rfl) ?_)))))))))))))))
 rintro _ w2 ⟨b2, rfl, H2⟩
 refine aA (aj (ay (ay (ah (aI rfl (dH rfl func50 (Hl H2.f2) ?_))))))
 rintro _ w3 ⟨bA3, lv3, rfl, H3⟩
 refine aA (aj (bf ?_))
 have KQ := H3.f4
 have KR := aB.Hg (us := []) (ls := (s.hl.take 0).map fun x => BH x.1) rfl ((KQ.P9.iE none).f3)
 have Hd6 := KR.f4.right
 obtain ⟨R7, hR7, HR7⟩ := aB.CV (Hd6.f3.f3)
 refine qp rfl (Um bA3) (fun k => Nv b2 ((s.hl.take k).map fun x => BH x.1) • R7) (fact False) (fun _ => fact False) (HR7.f3.f3.f3.f3.f3.f3.g2.comm) (by rfl) ?_ ?_ ?_ ?_
 ·rintro l8 k TI vs8 A8 ⟨rfl, rfl⟩ G8 w8 H8
  try simp only [bI, ji, nC] at H8
  refine ⟨rfl, ?_⟩
  dsimp only [Jg]
  have hkh : k < s.hl.length := by omega
  have hks := OT hlk.2.2.2.2.2 hkh
  have hb2 := uS (s.hl.getD k default).1
  have hb3 := jV (s.hl.getD k default).1
  have hb4 : (oM (s.hl.getD k default).1).length ≤ 17179869184 := by omega
  have hlt : ((s.hl.take k).map fun x => BH x.1).length = k := by simp; omega
  obtain ⟨u, us, HI⟩ := (H8).Zc
  refine ah (iw (cZ (l := [_, _]) HI zeroValue84 rfl) ?_)
  rintro _ w9 ⟨b9, rfl, H9⟩
  refine aJ (bG 0 (l' := [_, _]) (us := [_, _]) H9 sizeOf84 rfl rfl rfl (aC (by first | rfl | assumption) (aC (by first | rfl | assumption) bn)) rfl rfl) ?_
  rintro _ w10 qL
  refine aA ?_
  refine GK (qL.g5) ?_
  intro G11 Gq sD
  try simp only [bI] at sD
  refine bf ?_
  have U7 := sD.drew
  have Hr := aB.kp (U7.f4.f4.f4.f4)
  refine wo [0, 2] Hr rfl (iy 0 rfl Hr (fun W hW => iQ underlying22 rfl ((Kp.h hW).f2).get.2 rfl) (dV 1 rfl Hr 0 underlying84 rfl sizeOf9 rfl (iy 2 rfl Hr (fun W hW => iQ underlying9 rfl ((Kp.h hW)).get.2 rfl) (jr 3 rfl (pO U7 underlying9 underlying104 underlying5 rfl (by omega)) ?_))))
  rintro l12 w12 vV
  have zn := aB.kp (vV.f5.f5.f5.f5.f5)
  refine bW zn (fun W hW => (Kp.h hW).right.f4.f4.f4.f4) ?_
  refine jr 4 rfl (rX rfl func51 (uQ vV (by assumption) (fun W HW => (HW).jH) (by assumption) (by omega))) ?_
  rintro u13 O7 xQ
  have Wi := xQ.jy
  have Je := aB.kp (Wi.f6.f6.f6.f6.f6.f6)
  refine bW Je (fun W hW => (Kp.h hW).right.f5.f5.f5.f5.f5) ?_
  refine jr 5 rfl (jv (vs := [_]) Wi underlying22 sizeOf23 zeroValue23 rfl rfl rfl (by decide) (aC (by first | rfl | exact Rd.one ((Wi).jH)) bn)) ?_
  rintro l15 Sv xE
  have vW := aB.kp (xE.f7.f7.f7.f7.f7.f7.f7)
  refine bW vW (fun W hW => (Kp.h hW).right.f6.f6.f6.f6.f6.f6) ?_
  refine jr 6 rfl (fP xE.f6 underlying22 (show (prog.info? 23).map (fun i => (i.zero, i.size, i.bytes)) = some (some (.slice none 0 0), 1, 24) by kernel_rfl) rfl rfl rfl ((xE).aT) (aC (by first | rfl | exact Rd.one ((xE.f2).jH)) bn) (by omega) (by omega)) ?_
  rintro YV w16 rV
  have GH := rV.f2.right
  have xR := aB.kp (GH.f6.f6.f6.f6.f6.f6)
  refine dR xR (by kernel_rfl) ?_
  refine dN 7 rfl (by kernel_rfl) (aS 0 (l' := [_]) GH.f5 sizeOf22 rfl rfl (by first | rfl | exact Rd.one ((GH).aT)) rfl rfl) ?_
  rintro _ Tz Bd
  have zo := aB.kp (Bd.f6.f6.f6.f6.f6.f6)
  refine dR zo (by kernel_rfl) ?_
  refine nJ (aH ?_)
  refine yx ?_
  rw [EU _ _ hkh]
  exact (aB.Hg (by simp) (aB.Fz Bd.f4.right.f4.right.f2.f2.f3.f4).f3.f3).deep
 ·rintro D19 Sz xk
  have YE := xk.ed
  try simp only [bI, ji, nC] at YE
  have YF := YE.Io
  subst hR7
  rw [List.take_of_length_le (Nat.le_refl _)] at YF
  obtain ⟨u, us, HI⟩ := (YF.f4).Zc
  have hl0 : (s.hl.map fun x => BH x.1).length = s.hl.length := by simp
  refine aH (aj (ay (ah (eu underlying22 rfl (HI).get.2 rfl (iw (jv (vs := [_]) HI underlying22 sizeOf23 zeroValue23 rfl rfl rfl (by decide) (aC (by first | rfl | assumption) bn)) ?_)))))
  rintro XV SA yJ
  refine iw (fP yJ.f3 underlying22 (show (prog.info? 23).map (fun i => (i.zero, i.size, i.bytes)) = some (some (.slice none 0 0), 1, 24) by kernel_rfl) rfl rfl rfl ((yJ).aT) (aC (by first | rfl | assumption) bn) (by omega) (by omega)) ?_
  rintro ZQ TA pF
  have BX := pF.f2.right
  refine aJ (aS 0 (l' := [_]) BX.f2 sizeOf22 rfl rfl (by first | rfl | exact Rd.one ((BX).aT)) rfl rfl) ?_
  rintro _ PZ vY
  refine aA (aj (ay ?_))
  have VJ := vY.f3
  have VK := ((VJ).JR.swap).Fz
  have VL := VK.f3.f3
  have VN := aB.Hg (ls := s.tY) (by rw [s.vT, hl0]) VL
  refine ah (aI rfl (dH rfl func16 (vS VN.f5) ?_))
  rintro _ YS ⟨u28, aaZ, aa0, YG, rfl, SC⟩
  obtain ⟨bus, rfl⟩ : ∃ q, q = aa0 := ⟨_, rfl⟩
  refine iw (cZ (l := [_, _, _, _, _, _, _, _, _, _, _, _, _, _, _, _, _]) SC zeroValue44 rfl) ?_
  rintro _ Zm ⟨b29, rfl, Ob⟩
  refine aJ (bG 0 (l' := [_, _, _, _, _, _, _, _, _, _, _, _, _, _, _, _, _]) (us := [_, _, _, _, _, _, _, _, _, _, _, _, _, _, _, _, _]) Ob sizeOf44 rfl rfl rfl (aC (by first | rfl | exact Rd.one ((Ob.f2).aT)) (aC (by first | rfl | assumption) (aC (by first | rfl | assumption) (aC (by first | rfl | assumption) (aC (by first | rfl | assumption) (aC (by first | rfl | assumption) (aC (by first | rfl | assumption) (aC (by first | rfl | assumption) (aC (by first | rfl | assumption) (aC (by first | rfl | assumption) (aC (by first | rfl | assumption) (aC (by first | rfl | exact Rd.one ((Ob.f3).aT)) (aC (by first | rfl | assumption) (aC (by first | rfl | exact Rd.one ((Ob.f5).aT)) (aC (by first | rfl | assumption) (aC (by first | rfl | assumption) (aC (by first | rfl | assumption) bn))))))))))))))))) rfl rfl) ?_
  rintro _ YT J7
  refine aA (aj (ay (ay (ah (bC 13 underlying44 rfl sizeOf42 rfl (eu underlying42 rfl (J7).get.2 rfl (aU (eX ((J7.f5).aT) underlying42 rfl) (aI rfl (aA (aj (bf ?_)))))))))))
  refine eP [(4, _), (7, _), (31, _), (32, _)] (fun (j : Nat) => [(33, .int .i64 (j : Int))]) (fun (j : Nat) W => j ≤ s.saved.length ∧ aB w0 W (Marks [D19] • Nv b2 ((s.saved.take j).foldl setAt s.tY) • dh b29 (.cells (Et s u28 aaZ YG).toArray 44 (0, 0)) • iD 21 .i32 u28 s.c.L • Row 106 2 YG s.saved.length (s.saved.flatMap FT) • dO e s • F)) (fun (j : Nat) => s.saved.length - j) (0) (Sub.cons rfl (Sub.cons rfl (Sub.cons rfl (Sub.cons rfl (Sub.nil _))))) (Sub.cons rfl (Sub.nil _)) ⟨by omega, J7.f3.right.f3.right.f7.right.f7.right.f4.f4.f4.f4.f5.f6⟩ ?_
  rintro j Wv ⟨hj, HJ⟩
  dsimp only [List.cons_append, List.nil_append]
  refine ay (ah (aU (dB rfl rfl) (aA (aj (ay (aP rfl (fun h1 => ?_) (fun h1 => ?_)))))))
  ·(try simp only [aG] at h1)
   refine aO (aj (ay (bf (ay ?_))))
   have hjl : j < s.saved.length := by omega
   obtain ⟨hx1, hx2⟩ := BI (show s.saved.getD j default ∈ s.saved from by rw [List.getD_eq_getElem?_getD, List.getElem?_eq_getElem hjl]; exact List.getElem_mem hjl)
   have hxs : (s.saved.getD j default).2.size ≤ 16384 := by rw [hx2]; exact mG hlk.2.2.2.2.2 hok.2.2 _
   have hc2 := uS (s.saved.getD j default).2
   have hc3 := jV (s.saved.getD j default).2
   have hc4 : (oM (s.saved.getD j default).2).length ≤ 17179869184 := by omega
   have hfl : ((s.saved.take j).foldl setAt s.tY).length = s.hl.length + 1 := by rw [pW, s.vT]
   obtain ⟨u2, us2, HI2⟩ := (HJ.f2).Zc
   refine ah ?_
   obtain ⟨abF, abG, abH, YH⟩ := Rd.kV ((HI2.f7).aT) (by omega)
   cases YH
   refine aU (bY underlying42 sizeOf106 rfl rfl (by omega)) (aU (jf (ys := [_, _]) ((HI2.f7).aT) (by omega) underlying106 rfl sizeOf106 rfl (kC OE (by omega) default) rfl) (iw (cZ (l := [_, _]) HI2 zeroValue106 rfl) ?_))
   rintro _ w32 ⟨b32, rfl, EI⟩
   refine aJ (bG 0 (l' := [_, _]) (us := [_, _]) EI sizeOf106 rfl rfl rfl (aC (by first | rfl | assumption) (aC (by first | rfl | assumption) bn)) rfl rfl) ?_
   rintro _ YU KL
   refine aA (aj ?_)
   have RI := KL.drew
   have xA := aB.kp (RI.f9.f9.f9.f9.f9.f9.f9.f9.f9)
   refine wo [0, 2, 4] xA rfl (iy 0 rfl xA (fun W hW => iQ underlying22 rfl ((Kp.h hW).f2).get.2 rfl) (dV 1 rfl xA 0 underlying106 rfl sizeOf3 rfl (iy 2 rfl xA (fun W hW => iQ underlying3 rfl ((Kp.h hW)).get.2 rfl) (dV 3 rfl xA 1 underlying106 rfl sizeOf9 rfl (iy 4 rfl xA (fun W hW => iQ underlying9 rfl ((Kp.h hW)).get.2 rfl) (jr 5 rfl (pO RI underlying9 underlying104 underlying5 rfl (by omega)) ?_))))))
   rintro l34 Y0 Nh
   have Bo := aB.kp (Nh.f10.f10.f10.f10.f10.f10.f10.f10.f10.f10)
   refine bW Bo (fun W hW => (Kp.h hW).right.f9.f9.f9.f9.f9.f9.f9.f9.f9) ?_
   refine jr 6 rfl (rX rfl func51 (uQ Nh (by assumption) (fun W HW => (HW).jH) (by assumption) (by omega))) ?_
   rintro u35 w35 TT
   have Un := TT.jy
   have Nu := aB.kp (Un.f11.f11.f11.f11.f11.f11.f11.f11.f11.f11.f11)
   refine bW Nu (fun W hW => (Kp.h hW).right.f10.f10.f10.f10.f10.f10.f10.f10.f10.f10) ?_
   obtain ⟨bu2, ou2, cu2, eu2⟩ := Rd.kV ((Un.f5).aT) (by omega)
   cases eu2
   refine iR 7 rfl Nu (fun _ => bY underlying22 sizeOf23 rfl rfl (by omega)) ?_
   refine dN 8 rfl (by kernel_rfl) (y9 0 Un.f5 sizeOf23 rfl rfl (by first | rfl | exact Rd.one ((Un).jH)) (by omega) (by decide)) ?_
   rintro _ w37 UW
   have Rx := aB.kp (UW.f11.f11.f11.f11.f11.f11.f11.f11.f11.f11.f11)
   refine dR Rx (by kernel_rfl) ?_
   simp only [Nat.mul_one, Nat.add_zero] at UW
   have aa1 := UW.f5.f6.f4
   have aa2 := aB.Hg (ls := setAt ((s.saved.take j).foldl setAt s.tY) (s.saved.getD j default)) (by rw [FY]) ((aB.JQ aa1 (s.saved.getD j default).1.toNat).f3.f3)
   refine nJ (aH (aj (ah (aU (dG rfl rfl (by omega)) (aI rfl (aA ?_))))))
   refine cO (j + 1) ?_ ?_ ?_ ?_
   ·exact (Sub.cons rfl (Sub.nil _))
   ·exact (Sub.cons rfl (Sub.cons rfl (Sub.cons rfl (Sub.cons rfl (Sub.nil _)))))
   ·(try dsimp only)
    first | done | exact ⟨by omega, by rw [JO _ _ _ default hjl]; exact aa2.f2.right.f2.right.f6.f6.f6.f6.f5.f6⟩
   ·(try dsimp only); omega
  ·(try simp only [aG] at h1)
   refine dK (aV (aV (bD (aj (ay ?_)))))
   obtain rfl : j = s.saved.length := by omega
   rw [List.take_of_length_le (Nat.le_refl _)] at HJ
   have hfl : (s.saved.foldl setAt s.tY).length = s.hl.length + 1 := by rw [pW, s.vT]
   obtain ⟨u3, us3, HI3⟩ := (HJ.f2).Zc
   have V3 := HI3.f6
   have JE := aB.jy V3
   refine ah (eu underlying22 rfl (JE.f2).get.2 rfl (bC 12 underlying44 rfl sizeOf3 rfl (eu underlying3 rfl (JE.f6).get.2 rfl (bC 0 underlying44 rfl sizeOf41 rfl (bC 0 underlying41 rfl sizeOf23 rfl (eu underlying23 rfl (JE.f6).get.2 rfl ?_))))))
   obtain ⟨bu3, ou3, cu3, XA⟩ := Rd.kV ((JE.f3).aT) (by omega)
   cases XA
   refine aU (bY underlying22 sizeOf23 rfl rfl (by omega)) (aJ (y9 0 JE.f3 sizeOf23 rfl rfl (by first | rfl | exact Rd.one ((JE).jH)) (by omega) (by decide)) ?_)
   rintro _ w42 SE
   refine aA (aj (ay (ah (eu underlying22 rfl (SE.f3).get.2 rfl (aW rfl (aA (aj (aK ?_))))))))
   refine yQ (.inl rfl) (SE.f5) (fun Y2 SG => ?_)
   refine ⟨_, SI results13 rfl, ?_⟩
   simp only [Nat.mul_one, Nat.add_zero, Et, List.getElem_toArray, List.getElem_cons_zero] at SG
   have X := aB.JQ SG.f3.right.f4.right.f4.right.f4.f2.f4.f4 s.c.place.toNat
   exact ⟨_, by rw [show s.lines.length = (s.saved.foldl setAt s.tY).length from by rw [s.Aw, hfl]]; exact X.swap⟩
 ·rintro D w H; exact absurd H.swap.fact.1 id
 ·rintro id D w H; exact absurd H.swap.fact.1 fun h => h
end
end Go.Proofs.YtddekefihgejoaaGreatDoor
end
section
namespace Go.Proofs.YtddekefihgejoaaGreatDoor
open Go.RowKit
structure O9 where
  pat : List Int
  back : Bool
  failed : Bool
  place : Int
  at_ : Int
deriving Inhabited
structure SS where
  L : List (List Int)
  last : List Int
  now : O9
  was : List O9
def Ht (pv : Value) (t : O9) (n : Nat) : List Value := [pv, .bool t.back, .bool t.failed, .int .i64 t.place, .int .i64 t.at_, .int .i64 (n : Int)]
def Hu (lv LM pv uv : Value) (t : O9) (n : Nat) : List Value := [lv, LM, pv, .bool t.back, .bool t.failed, .int .i64 t.place, .int .i64 t.at_, .int .i64 (n : Int), uv]
def Nw (I : Hp) (p n : Nat) (v : Value) (t : O9) : Prop := ∃ (old box : Nat) (pv : Value), v = .func (.func 119) #[] #[.pointer (some ⟨old, 0, none⟩), .pointer (some ⟨box, 0, none⟩)] ∧
  I old = some (.cells (Ht pv t n).toArray 52 (0, 0)) ∧ I box = some (.cells #[.pointer (some ⟨p, 0, none⟩)] 46 (0, 0)) ∧ xC I .i32 pv t.pat
def Wj (I : Hp) (p n : Nat) (vs : List Value) (ts : List O9) : Prop := vs.length = ts.length ∧ ∀ j, j < ts.length → Nw I p n (vs.getD j undef) (ts.getD j default)
theorem Nw.mono {I I' : Hp} {p n : Nat} {v : Value} {t : O9} (hl : Hp.le I I') (h : Nw I p n v t) : Nw I' p n v t := by
  obtain ⟨old, box, pv, h1, h2, h3, h4⟩ := h
  exact ⟨old, box, pv, h1, hl _ _ h2, hl _ _ h3, h4.mono hl⟩
def Az (p n : Nat) (vs : List Value) (ts : List O9) : HP := know (fun I => Wj I p n vs ts) fun _ _ hl h => ⟨h.1, fun j hj => (h.2 j hj).mono hl⟩
def Ce (S : SS) : Prop := (0 < S.L.length ∧ S.L.length ≤ 4097 ∧ ∀ k, k < S.L.length → (S.L.getD k []).length ≤ 16384) ∧ S.now.pat.length ≤ 1024 ∧ (0 ≤ S.now.place ∧ S.now.place < S.L.length) ∧ S.was.length ≤ 35184372087808 ∧ ∀ t ∈ S.was, t.pat.length ≤ 1024 ∧ 0 ≤ t.place ∧ t.place < S.L.length
def iL (p : Nat) (S : SS) : HP := qN fun (x : Value × Value × Value × Value × List Value × List Value) => fact (Ce S) • dh p (.cells (Hu x.1 x.2.1 x.2.2.1 x.2.2.2.1 S.now S.L.length).toArray 75 (0, 0)) •
  Row 23 1 x.1 S.L.length x.2.2.2.2.1 • sF .i32 x.2.2.2.2.1 S.L • pU .i32 x.2.1 S.last • pU .i32 x.2.2.1 S.now.pat • Row 1 1 x.2.2.2.1 S.was.length x.2.2.2.2.2 • Az p S.L.length x.2.2.2.2.2 S.was
section
variable {w0 w : World} {F : HP} {p n : Nat} {S : SS} {lv LM pv uv : Value} {us ws : List Value}
theorem aB.RJ {k : IntKind} {v : Value} {l : List Int} (H : aB w0 w (pU k v l • F)) : aB w0 w (pU k v l • pU k v l • F) := H.yM
theorem aB.search (H : aB w0 w (iL p S • F)) : ∃ lv LM pv uv us ws, Ce S ∧ aB w0 w (dh p (.cells (Hu lv LM pv uv S.now S.L.length).toArray 75 (0, 0)) • Row 23 1 lv S.L.length us • sF .i32 us S.L • pU .i32 LM S.last • pU .i32 pv S.now.pat •
    Row 1 1 uv S.was.length ws • Az p S.L.length ws S.was • F) := by
  obtain ⟨⟨lv, LM, pv, uv, us, ws⟩, H⟩ := H.lD
  obtain ⟨h, H⟩ := H.flat.fact
  exact ⟨lv, LM, pv, uv, us, ws, h, H.of_eq (by simp only [bI])⟩
theorem aB.kF (h : Ce S) (H : aB w0 w (dh p (.cells (Hu lv LM pv uv S.now S.L.length).toArray 75 (0, 0)) • Row 23 1 lv S.L.length us • sF .i32 us S.L • pU .i32 LM S.last • pU .i32 pv S.now.pat • Row 1 1 uv S.was.length ws • Az p S.L.length ws S.was • F)) :
    aB w0 w (iL p S • F) := aB.gK (lv, LM, pv, uv, us, ws) (aB.deep (aB.jP h (H.of_eq (by simp only [bI]))))
theorem OU (H : aB w0 w F) : aB w0 w (Az p n [] [] • F) := H.wY fun I => ⟨rfl, fun j hj => by simp at hj⟩
theorem LP {vs : List Value} {ts : List O9} {old box : Nat} {t : O9} (H : aB w0 w (Az p n vs ts • Zd old (.cells (Ht pv t n).toArray 52 (0, 0)) • Zd box (.cells #[.pointer (some ⟨p, 0, none⟩)] 46 (0, 0)) • pU .i32 pv t.pat • F)) :
    aB w0 w (Az p n (vs ++ [.func (.func 119) #[] #[.pointer (some ⟨old, 0, none⟩), .pointer (some ⟨box, 0, none⟩)]]) (ts ++ [t]) • F) := by
  refine H.EH fun I x ha => ?_
  have h1 := (iP _ _ _ I x).1 ha
  have h2 := (iP _ _ _ I x).1 h1.2
  have h3 := (iP _ _ _ I x).1 h2.2
  have h4 := (iP _ _ _ I x).1 h3.2
  refine (iP _ _ F I x).2 ⟨⟨by simp [h1.1.1], fun j hj => ?_⟩, h4.2⟩
  have hl := h1.1.1
  rw [List.length_append, List.length_singleton] at hj
  by_cases e : j < ts.length
  · rw [ku (by omega), ku e]; exact h1.1.2 j e
  · rw [jL (by omega), jL (by omega), show j - vs.length = 0 from by omega, show j - ts.length = 0 from by omega]
    exact ⟨old, box, pv, rfl, h2.1, h3.1, h4.1⟩
end
end Go.Proofs.YtddekefihgejoaaGreatDoor
end
section
namespace Go.Proofs.YtddekefihgejoaaGreatDoor
open Go.RowKit
open _root_.Go.Proofs.Tryz
namespace SS
def start (L : List (List Int)) (last : List Int) (back : Bool) (place at_ : Int) : SS := ⟨L, last, ⟨[], back, false, place, at_⟩, []⟩
def found (S : SS) (at_ : Int) : Int × Int × Bool := fH S.L S.now.place at_ S.now.pat S.now.back
def FZ (S : SS) (at_ : Int) : Int := if (S.found at_).2.2 then 0 else 6
def BJ (S : SS) (at_ : Int) : SS := if (S.found at_).2.2 then { S with now := { S.now with failed := false, place := (S.found at_).1, at_ := (S.found at_).2.1 } } else { S with now := { S.now with failed := true } }
def keep (S : SS) : SS := { S with was := S.was ++ [S.now] }
def more (S : SS) (l : List Int) : SS := { S.keep with now := { S.now with pat := S.now.pat ++ l } }
def nS (S : SS) (l : List Int) : Int := if 1024 < S.now.pat.length + l.length then 3 else if l.length = 0 then 0 else (S.more l).FZ S.now.at_
def Eu (S : SS) (l : List Int) : SS := if 1024 < S.now.pat.length + l.length then S else if l.length = 0 then S else (S.more l).BJ S.now.at_
def abI (S : SS) : Int := if S.was.length = 0 then 6 else 0
def abJ (S : SS) : SS := if S.was.length = 0 then S else { S with now := S.was.getD (S.was.length - 1) default, was := S.was.take (S.was.length - 1) }
end SS
section
variable {w0 w : World} {F : HP} {p n e : Nat} {S : SS} {s : bH} {v lv LM pv uv : Value} {us ws : List Value} {l : List Int} {back : Bool} {at_ : Int}
theorem wR (H : aB w0 w (iL p S • F)) : gG prog 60 #[.pointer (some ⟨p, 0, none⟩)] w fun v w' => v = .bool false ∧ w = w' := by
 refine iF func60 ntmps60 ?_
 dsimp only [bg, Nat.reduceAdd]
 refine ay (ah (aW rfl (aA (aj (ay ?_)))))
 obtain ⟨LQ, Ew, LU, LV, LW, LX, tZ, oN⟩ := (H).search
 obtain ⟨abK, abL, abM, YI⟩ := Rd.kV ((oN.f2).aT) (by have h9 := tZ.1.1; omega)
 cases YI
 refine ah (aI rfl (aU (iI underlying46 rfl rfl) (iM rfl (fun h1 => ?_) (fun h1 => ?_))))
 ·(try simp only [aG] at h1)
  try (exfalso; first | contradiction | omega)
  all_goals
   refine aZ (aZ (aZ (aZ (aZ (fK rfl rfl (aW rfl (aA (aj (aK (aQ (.inl rfl) results60 rfl ?_))))))))))
   exact ⟨rfl, rfl⟩
 ·(try simp only [aG] at h1)
  try (exfalso; first | contradiction | omega)
  all_goals
   refine aY (aI rfl (aY (bQ rfl (aY (bC 0 underlying75 rfl sizeOf22 rfl (aY (eu underlying22 rfl (oN).get.2 rfl (aY (aU (o9 underlying22 rfl rfl) (fC rfl rfl (aW rfl (aA (aj (aK (aQ (.inl rfl) results60 rfl ?_)))))))))))))))
   exact ⟨rfl, rfl⟩
theorem OV (hlen : s.hl.length ≤ 4096) (hp : 0 ≤ s.c.place ∧ s.c.place ≤ s.hl.length) (hL : ∀ k, k < s.lines.length → (s.lines.getD k []).length ≤ 16384) : Ce (.start s.lines l back s.c.place at_) := by
  have := s.Aw
  exact ⟨⟨by show 0 < s.lines.length; omega, by show s.lines.length ≤ 4097; omega, hL⟩, by show 0 ≤ 1024; omega, by show 0 ≤ s.c.place ∧ s.c.place < s.lines.length; omega, by show 0 ≤ _; omega, fun t ht => by cases ht⟩
theorem JU {s : bH} (h1 : ∀ x ∈ s.hl, x.1.size ≤ 16384) (h2 : ∀ x ∈ s.saved, x.2.size ≤ 16384) (h3 : s.c.L.length ≤ 16384) : ∀ k, k < s.lines.length → (s.lines.getD k []).length ≤ 16384 := by
  have ht : ∀ b : ByteArray, b.size ≤ 16384 → (BH b).length ≤ 16384 := fun b hb => by have := KA (oM b); rw [jV] at this; unfold BH; omega
  have key : ∀ (xs : List (Int × ByteArray)) (l : List (List Int)), (∀ x ∈ xs, x.2.size ≤ 16384) → (∀ x ∈ l, x.length ≤ 16384) → ∀ x ∈ xs.foldl setAt l, x.length ≤ 16384 := by
    intro xs
    induction xs with
    | nil => intro l _ h; exact h
    | cons y xs ih =>
      intro l hx hl
      rw [List.foldl_cons]
      refine ih _ (fun x h => hx x (List.mem_cons_of_mem _ h)) fun x h => ?_
      rcases List.mem_or_eq_of_mem_set h with h | rfl
      · exact hl x h
      · exact ht _ (hx y (List.mem_cons_self ..))
  have all : ∀ x ∈ s.lines, x.length ≤ 16384 := fun x h => by
    unfold bH.lines at h
    rcases List.mem_or_eq_of_mem_set h with h | rfl
    · refine key _ _ h2 (fun x h => ?_) x h
      unfold bH.tY at h
      rcases List.mem_append.1 h with h | h
      · obtain ⟨y, hy, rfl⟩ := List.mem_map.1 h; exact ht _ (h1 y hy)
      · obtain rfl := List.mem_singleton.1 h; simp
    · exact h3
  intro k hk
  rw [List.getD_eq_getElem?_getD, List.getElem?_eq_getElem hk]
  exact all _ (List.getElem_mem hk)
theorem LY (H : aB w0 w (dO e s • F)) (hr : iG w0 F .i32 v l) (hl : l.length ≤ 35184372087808) (hT : rZ w0) : gG prog 17 #[.pointer (some ⟨e, 0, none⟩), .bool back, v] w fun v' w' => ∃ p, v' = .tuple #[.pointer (some ⟨p, 0, none⟩), .int .i64 0] ∧
  aB w0 w' (iL p (.start s.lines l back s.c.place s.c.pt) • dO e s • F) := by
 obtain ⟨hok, hlk, hsL⟩ : Am s.hl s.c ∧ VB s.hl s.base s.most ∧ s.c.L.length ≤ 1024 := by
  obtain ⟨qy, qA, qB, qC, qE, qF, qG, qH, oq, mM, mO, mP, mQ, mV, mW, mX, mY, mZ, ng, ni, dI, bM, ig, eH⟩ := (H).D9
  obtain ⟨hv9, hk9, _⟩ := (eH.f7).hist
  have hL : s.c.L.length ≤ 1024 := by obtain ⟨a, c, xs, f, t, h1, h2, h3, h4, h5, h6, h7, hc1, hc2, hl, H1⟩ := (eH.f2).buf; exact h4
  exact ⟨dI.1, hk9, hL⟩
 have hlen := s.Aw
 have hsh := JU (s := s) (fun x hx => (hlk.2.2.2.2.2 x hx).1) (fun x hx => by rw [(BI hx).2]; exact mG hlk.2.2.2.2.2 hok.2.2 _) (by omega)
 have hln := hlk.1
 refine iF func17 ntmps17 ?_
 dsimp only [bg, Nat.reduceAdd]
 refine ay (ah (aW rfl (aW rfl (aA (aj (ay (ah (aI rfl (dH rfl func13 (Ho H (by assumption)) ?_)))))))))
 rintro u1 w1 ⟨us1, H1⟩
 obtain ⟨lus, rfl⟩ : ∃ q, q = us1 := ⟨_, rfl⟩
 obtain ⟨bu1, ou1, cu1, eu1⟩ := Rd.kV ((H1).aT) (by omega)
 cases eu1
 refine aW rfl (aA (aj (ay (ay (ah (aI rfl (aU (o9 underlying22 rfl rfl) (aA (aj (nY (aO (aj (ay (ah (aI rfl (dH rfl func16 (vS H1.f3) ?_))))))))))))))))
 rintro _ w2 ⟨u2, ks2, us2, sv2, rfl, H2⟩
 obtain ⟨bus, rfl⟩ : ∃ q, q = us2 := ⟨_, rfl⟩
 refine iw (cZ (l := [_, _, _, _, _, _, _, _, _, _, _, _, _, _, _, _, _]) H2 zeroValue44 rfl) ?_
 rintro _ w3 ⟨b3, rfl, H3⟩
 refine aJ (bG 0 (l' := [_, _, _, _, _, _, _, _, _, _, _, _, _, _, _, _, _]) (us := [_, _, _, _, _, _, _, _, _, _, _, _, _, _, _, _, _]) H3 sizeOf44 rfl rfl rfl (aC (by first | rfl | exact Rd.one ((H3.f2).aT)) (aC (by first | rfl | assumption) (aC (by first | rfl | assumption) (aC (by first | rfl | assumption) (aC (by first | rfl | assumption) (aC (by first | rfl | assumption) (aC (by first | rfl | assumption) (aC (by first | rfl | assumption) (aC (by first | rfl | assumption) (aC (by first | rfl | assumption) (aC (by first | rfl | assumption) (aC (by first | rfl | exact Rd.one ((H3.f3).aT)) (aC (by first | rfl | assumption) (aC (by first | rfl | exact Rd.one ((H3.f5).aT)) (aC (by first | rfl | assumption) (aC (by first | rfl | assumption) (aC (by first | rfl | assumption) bn))))))))))))))))) rfl rfl) ?_
 rintro _ w4 H4
 refine aA (aj (ay ?_))
 have Ru := H4.drew
 have jm := aB.kp (Ru.f8.f8.f8.f8.f8.f8.f8.f8)
 refine wo [5, 8] jm rfl (gV 0 rfl jm rfl (gV 1 rfl jm rfl (gV 3 rfl jm rfl (dV 4 rfl jm 12 underlying44 rfl sizeOf3 rfl (iy 5 rfl jm (fun W hW => iQ underlying3 rfl ((Kp.h hW)).get.2 rfl) (dV 6 rfl jm 0 underlying44 rfl sizeOf41 rfl (dV 7 rfl jm 1 underlying41 rfl sizeOf3 rfl (iy 8 rfl jm (fun W hW => iQ underlying3 rfl ((Kp.h hW)).get.2 rfl) (gV 9 rfl jm rfl (iR 10 rfl jm (fun _ => jg underlying22 rfl) ?_))))))))))
 refine iR 11 rfl jm (fun _ => dF (zl := [.slice none 0 0, .bool false, .bool false, .int .i64 0, .int .i64 0, .int .i64 0]) (pl := [(0, 1), (1, 1), (2, 1), (3, 1), (4, 1), (5, 1)]) [_, _, _, _, _, _] underlying52 zeroValue52 rfl (fun w => by kernel_rfl) rfl (.zero (zs := [.slice none 0 0]) rfl (.one (by first | rfl | assumption) (.zero (zs := [.bool false]) rfl (.one (by first | rfl | assumption) (.one (by first | rfl | assumption) (.one (by first | rfl | assumption) .nil)))))) rfl) ?_
 refine jr 2 rfl (rX rfl func59 (kW Ru (fun W HW => hr _ (HW.right.right.right.right.right.right.right.right)) (by omega))) ?_
 rintro u5 w5 H5
 have uG := aB.kp (H5.f9.f9.f9.f9.f9.f9.f9.f9.f9)
 refine bW uG (fun W hW => (Kp.h hW).right.f8.f8.f8.f8.f8.f8.f8.f8) ?_
 refine iR 12 rfl uG (fun _ => dF (zl := [.slice none 0 0, .slice none 0 0, .slice none 0 0, .bool false, .bool false, .int .i64 0, .int .i64 0, .int .i64 0, .slice none 0 0]) (pl := [(0, 1), (1, 1), (2, 6), (8, 1)]) [_, _, _, _, _, _, _, _, _] underlying75 zeroValue75 rfl (fun w => by kernel_rfl) rfl (.one (Rd.one ((H5.f8).aT)) (.one (Rd.one ((H5).aT)) (.agg (us := [_, _, _, _, _, _]) (zs := [.slice none 0 0, .bool false, .bool false, .int .i64 0, .int .i64 0, .int .i64 0]) rfl rfl (.zero (zs := [.slice none 0 0]) rfl .nil)))) rfl) (jr 13 rfl (jd (l := [_, _, _, _, _, _, _, _, _]) H5 rfl rfl) ?_)
 rintro _ w6 ⟨b6, rfl, H6⟩
 have BZ := aB.kp (H6.f10.f10.f10.f10.f10.f10.f10.f10.f10.f10)
 refine dR BZ (by kernel_rfl) ?_
 refine iR 14 rfl BZ (fun _ => fA rfl) (iR 15 rfl BZ (fun _ => fA rfl) (nJ (aj (aK (gW (.inl rfl) results17 rfl rfl ?_)))))
 have X := OU (p := b6) (n := s.lines.length) (aB.iE (e := 1) (sz := 1) (aB.JR (k := .i32) (H6.f3.right.f3.right.f3.right.f3.right.f3.right.f3.f5.f5.f4.f5).jy) none)
 exact ⟨_, rfl, aB.kF (S := .start s.lines l back s.c.place s.c.pt) (OV hln ⟨hok.1, hok.2.1⟩ hsh) X.f2.f3.f4.f7.f7.f7⟩
end
end Go.Proofs.YtddekefihgejoaaGreatDoor
end
section
namespace Go.Proofs.YtddekefihgejoaaGreatDoor
open Go.RowKit
open _root_.Go.Proofs.Tryz
theorem Ny {S : SS} (h : Ce S) (hw : S.was.length ≤ 1099511627776) : Ce S.keep := by
  obtain ⟨h1, h2, h3, h4, h5⟩ := h
  refine ⟨h1, h2, h3, by show (S.was ++ [S.now]).length ≤ _; simp; omega, fun t ht => ?_⟩
  rcases List.mem_append.1 ht with h | h
  · exact h5 t h
  · obtain rfl := List.mem_singleton.1 h; exact ⟨h2, h3⟩
section
variable {w0 w : World} {F : HP} {p n e : Nat} {S : SS} {v lv LM pv uv : Value} {us ws : List Value} {l : List Int} {back : Bool} {at_ : Int}
theorem JV (H : aB w0 w (iL p S • F)) (hw : S.was.length ≤ 1099511627776) : gG prog 61 #[.pointer (some ⟨p, 0, none⟩)] w fun v w' => aB w0 w' (iL p S.keep • F) := by
 refine iF func61 ntmps61 ?_
 dsimp only [bg, Nat.reduceAdd]
 refine ay (ah (iw (jd (l := [_]) H rfl rfl) ?_))
 rintro _ w1 ⟨b1, rfl, H1⟩
 refine aA (aj (ay ?_))
 obtain ⟨LQ, Ew, LU, LV, LW, LX, tZ, oN⟩ := (H1.f2).search
 refine ah (eu underlying46 rfl (oN.f8).get.2 rfl (bQ rfl (bC 2 underlying75 rfl sizeOf52 rfl (aU (pq 2 (xs := [_, _, _, _, _, _]) underlying52 rfl sizeOf52 rfl rfl (oN).get.2 rfl) (iw (cZ (l := [_, _, _, _, _, _]) oN zeroValue52 rfl) ?_)))))
 rintro _ w3 ⟨b3, rfl, H3⟩
 refine aJ (bG 0 (l' := [_, _, _, _, _, _]) (us := [_, _, _, _, _, _]) H3 sizeOf52 rfl rfl rfl (aC (by first | rfl | exact Rd.one ((H3.f6).jH)) (aC (by first | rfl | assumption) (aC (by first | rfl | assumption) (aC (by first | rfl | assumption) (aC (by first | rfl | assumption) (aC (by first | rfl | assumption) bn)))))) rfl rfl) ?_
 rintro _ w4 H4
 refine aA (aj ?_)
 have YJ := H4.drew
 have Ey := aB.kp (YJ.f7.right.f8.f8.f8.f8.f8.f8.f8.f8)
 refine wo [0, 1, 4] Ey rfl (iy 0 rfl Ey (fun W hW => iQ underlying46 rfl ((Kp.h hW).f8).get.2 rfl) (iy 1 rfl Ey (fun W hW => iQ underlying46 rfl ((Kp.h hW).f8).get.2 rfl) (iZ 2 rfl Ey rfl (dV 3 rfl Ey 8 underlying75 rfl sizeOf73 rfl (iy 4 rfl Ey (fun W hW => iQ underlying73 rfl ((Kp.h hW).f2).get.2 rfl) (iR 5 rfl Ey (fun _ => qR rfl rfl) (jr 6 rfl (jv (vs := [_]) YJ underlying73 sizeOf1 zeroValue1 rfl rfl rfl (by decide) (aC (by first | rfl | assumption) bn)) ?_)))))))
 rintro l5 w5 H5
 have uG := aB.kp (H5.right.f7.right.f8.f8.f8.f8.f8.f8.f8.f8)
 refine bW uG (fun W hW => (Kp.h hW).f8.f8.f8.f8.f8.f8.f8.f8) ?_
 refine jr 7 rfl (fP H5.f8 underlying73 (show (prog.info? 1).map (fun i => (i.zero, i.size, i.bytes)) = some (some (.nilFunc), 1, 8) by kernel_rfl) rfl rfl rfl ((H5).aT) (aC (by first | rfl | assumption) bn) (by omega) (by omega)) ?_
 rintro l6 w6 H6
 have TK := H6.f2.right
 have xG := aB.kp (TK.f9.f9.f9.f9.f9.f9.f9.f9.f9)
 refine bW xG (fun W hW => (Kp.h hW).right.f8.f8.f8.f8.f8.f8.f8.f8) ?_
 refine iZ 8 rfl xG rfl (dV 9 rfl xG 8 underlying75 rfl sizeOf73 rfl ?_)
 refine dN 10 rfl (by kernel_rfl) (aS 8 (l' := [_, _, _, _, _, _, _, _, _]) TK.f3 sizeOf73 rfl rfl (by first | rfl | exact Rd.one ((TK).aT)) rfl rfl) ?_
 rintro _ w8 H8
 have Jd := aB.kp (H8.f9.f9.f9.f9.f9.f9.f9.f9.f9)
 refine dR Jd (by kernel_rfl) ?_
 refine nJ (gB (.inr rfl) results61 ?_)
 have X := ((H8.f2.f6.f6.f6.f5.f8.f8.f9.f9).freeze.swap.freeze.f3).RJ
 have X2 := LP (t := S.now) X.f3.f4.f5
 exact aB.kF (S := S.keep) (Ny tZ hw) (by show aB w0 _ (_ • _ • _ • _ • _ • Row _ _ _ (S.was ++ [S.now]).length _ • _ • F); rw [List.length_append, List.length_singleton]; exact X2.f7.f3.f7.f7.f7.f7)
end
end Go.Proofs.YtddekefihgejoaaGreatDoor
end
section
namespace Go.Proofs.YtddekefihgejoaaGreatDoor
open Go.RowKit
open _root_.Go.Proofs.Tryz
theorem JW {L : List (List Int)} {place at_ : Int} {pat : List Int} {back : Bool} (h : (fH L place at_ pat back).2.2 = true) : 0 ≤ (fH L place at_ pat back).1 ∧ (fH L place at_ pat back).1 < L.length ∧ 0 ≤ (fH L place at_ pat back).2.1 := by
  have kb : ∀ n, n ≤ L.length → (ou L place at_ pat n).2.2 = true → 0 ≤ (ou L place at_ pat n).1 ∧ (ou L place at_ pat n).1 < L.length ∧ 0 ≤ (ou L place at_ pat n).2.1 := by
    intro n
    induction n with
    | zero => intro _ h; cases h
    | succ n ih =>
      intro hn h
      unfold ou at h ⊢
      split
      · rename_i h1; exact ⟨by show (0 : Int) ≤ (n : Nat); omega, by show ((n : Nat) : Int) < _; omega, h1⟩
      · rename_i h1; rw [if_neg h1] at h; exact ih (by omega) h
  have kf : ∀ n i, i + n ≤ L.length → (findF L place at_ pat n i).2.2 = true → 0 ≤ (findF L place at_ pat n i).1 ∧ (findF L place at_ pat n i).1 < L.length ∧ 0 ≤ (findF L place at_ pat n i).2.1 := by
    intro n
    induction n with
    | zero => intro i _ h; cases h
    | succ n ih =>
      intro i hn h
      unfold findF at h ⊢
      split
      · rename_i h1; exact ⟨by show (0 : Int) ≤ (i : Nat); omega, by show ((i : Nat) : Int) < _; omega, h1⟩
      · rename_i h1; rw [if_neg h1] at h; exact ih _ (by omega) h
  unfold fH at h ⊢
  split
  · rename_i hb; rw [if_pos hb] at h; cases h
  · rename_i hb
    rw [if_neg hb] at h
    split
    · rename_i hk; rw [if_pos hk] at h; exact kb _ (by omega) h
    · rename_i hk; rw [if_neg hk] at h; exact kf _ _ (by omega) h
theorem Nz {S : SS} (h : Ce S) (a : Int) : Ce (S.BJ a) := by
  obtain ⟨h1, h2, h3, h4, h5⟩ := h
  unfold SS.BJ
  split
  · rename_i hf
    have := JW hf
    exact ⟨h1, h2, ⟨this.1, this.2.1⟩, h4, h5⟩
  · exact ⟨h1, h2, h3, h4, h5⟩
section
variable {w0 w : World} {F : HP} {p n e : Nat} {S : SS} {v lv LM pv uv : Value} {us ws : List Value} {l : List Int} {back : Bool} {at_ : Int}
theorem Hw (H : aB w0 w (iL p S • F)) : gG prog 63 #[.pointer (some ⟨p, 0, none⟩), .int .i64 at_] w fun v w' => v = .int .i64 (S.FZ at_) ∧ aB w0 w' (iL p (S.BJ at_) • F) := by
 refine iF func63 ntmps63 ?_
 dsimp only [bg, Nat.reduceAdd]
 refine ay (ah (aW rfl (aA (aj (ay ?_)))))
 obtain ⟨LQ, Ew, LU, LV, LW, LX, tZ, oN⟩ := (H).search
 have Ol := oN.drew
 have iV := aB.kp (Ol.f7.f7.f7.f7.f7.f7.f7)
 refine wo [3, 8, 14, 19] iV rfl (gV 0 rfl iV rfl (iZ 1 rfl iV rfl (dV 2 rfl iV 0 underlying75 rfl sizeOf22 rfl (iy 3 rfl iV (fun W hW => iQ underlying22 rfl ((Kp.h hW)).get.2 rfl) (gV 4 rfl iV rfl (iZ 5 rfl iV rfl (dV 6 rfl iV 2 underlying75 rfl sizeOf52 rfl (dV 7 rfl iV 3 underlying52 rfl sizeOf3 rfl (iy 8 rfl iV (fun W hW => iQ underlying3 rfl ((Kp.h hW)).get.2 rfl) (gV 9 rfl iV rfl (gV 10 rfl iV rfl (iZ 11 rfl iV rfl (dV 12 rfl iV 2 underlying75 rfl sizeOf52 rfl (dV 13 rfl iV 0 underlying52 rfl sizeOf23 rfl (iy 14 rfl iV (fun W hW => iQ underlying23 rfl ((Kp.h hW)).get.2 rfl) (gV 15 rfl iV rfl (iZ 16 rfl iV rfl (dV 17 rfl iV 2 underlying75 rfl sizeOf52 rfl (dV 18 rfl iV 1 underlying52 rfl sizeOf4 rfl (iy 19 rfl iV (fun W hW => iQ underlying4 rfl ((Kp.h hW)).get.2 rfl) (jr 20 rfl (rX rfl func7 (wQ (ls := S.L) (p := S.now.pat) Ol (fun W HW => HW.f2.aT) (fun k hk W HW => HW.f3.TD hk) (fun W HW => HW.f5.jH) (by have := tZ.1.2.1; omega) (fun k hk => by have := tZ.1.2.2 k hk; omega))) ?_)))))))))))))))))))))
 rintro _ w2 ⟨rfl, H2⟩
 have zq := aB.kp (H2.f7.f7.f7.f7.f7.f7.f7)
 refine dR zq (by kernel_rfl) ?_
 refine gV 21 rfl zq rfl (iR 22 rfl zq (fun _ => qK rfl rfl) (iR 23 rfl zq (fun _ => qK rfl rfl) (iR 24 rfl zq (fun _ => qK rfl rfl) (iR 25 rfl zq (fun _ => fA rfl) (iR 26 rfl zq (fun _ => fA rfl) (iR 27 rfl zq (fun _ => fA rfl) (nJ (aj (ay ?_)))))))))
 obtain ⟨r, hr⟩ : ∃ r, fH S.L S.now.place at_ S.now.pat S.now.back = r := ⟨_, rfl⟩
 rw [hr]
 refine ah (aI rfl (aI rfl (aU (gQ rfl) (bQ rfl (bC 2 underlying75 rfl sizeOf52 rfl (bC 2 underlying52 rfl sizeOf4 rfl (aJ (aS 4 (l' := [_, _, _, _, _, _, _, _, _]) H2 sizeOf4 rfl rfl (by first | rfl | assumption) rfl rfl) ?_)))))))
 rintro _ w3 H3
 refine aA (aj (ay (ay (ah (aI rfl (aU (gQ rfl) (aA (aj (aP rfl (fun h1 => ?_) (fun h1 => ?_))))))))))
 ·(try simp only [aG] at h1)
  have hno : r.2.2 = false := by have h9 := h1; simpa using h9
  refine ay (ah (aW rfl (aA (aj (aK (aN (aQ (.inl rfl) results63 rfl ?_)))))))
  have e1 : S.BJ at_ = { S with now := { S.now with failed := true } } := by unfold SS.BJ SS.found; rw [hr, if_neg (by rw [hno]; decide)]
  have e2 : S.FZ at_ = 6 := by unfold SS.FZ SS.found; rw [hr, if_neg (by rw [hno]; decide)]
  have X := H3
  rw [hno] at X
  exact ⟨by rw [e2], e1 ▸ aB.kF (S := { S with now := { S.now with failed := true } }) (e1 ▸ Nz tZ at_) X⟩
 ·(try simp only [aG] at h1)
  have hyes : r.2.2 = true := by have h9 := h1; simpa using h9
  refine aO (aj (ay (ah (aI rfl (aI rfl (aI rfl (aI rfl (bQ rfl (bC 2 underlying75 rfl sizeOf52 rfl (bC 3 underlying52 rfl sizeOf3 rfl (aJ (aS 5 (l' := [_, _, _, _, _, _, _, _, _]) H3 sizeOf3 rfl rfl (by first | rfl | assumption) rfl rfl) ?_)))))))))))
  rintro _ w4 H4
  refine bQ rfl (bC 2 underlying75 rfl sizeOf52 rfl (bC 4 underlying52 rfl sizeOf3 rfl (aJ (aS 6 (l' := [_, _, _, _, _, _, _, _, _]) H4 sizeOf3 rfl rfl (by first | rfl | assumption) rfl rfl) ?_)))
  rintro _ w5 H5
  refine aA (aj (ay (ah (aW rfl (aA (aj (aK (aQ (.inl rfl) results63 rfl ?_))))))))
  have e1 : S.BJ at_ = { S with now := { S.now with failed := false, place := r.1, at_ := r.2.1 } } := by unfold SS.BJ SS.found; rw [hr, if_pos hyes]
  have e2 : S.FZ at_ = 0 := by unfold SS.FZ SS.found; rw [hr, if_pos hyes]
  have X := H5
  rw [hyes] at X
  exact ⟨by rw [e2], e1 ▸ aB.kF (S := { S with now := { S.now with failed := false, place := r.1, at_ := r.2.1 } }) (e1 ▸ Nz tZ at_) X⟩
theorem RN (h : Ce S.keep) : Ce S := by
  obtain ⟨h1, h2, h3, h4, h5⟩ := h
  have : (S.was ++ [S.now]).length ≤ 35184372087808 := h4
  rw [List.length_append, List.length_singleton] at this
  exact ⟨h1, h2, h3, by omega, fun t ht => h5 t (List.mem_append_left _ ht)⟩
theorem Uo (h : Ce S) (hw : S.was.length ≤ 1099511627776) (hl : S.now.pat.length + l.length ≤ 1024) : Ce (S.more l) := by
  obtain ⟨h1, h2, h3, h4, h5⟩ := Ny h hw
  exact ⟨h1, by show (S.now.pat ++ l).length ≤ 1024; rw [List.length_append]; omega, h3, h4, h5⟩
theorem LZ (H : aB w0 w (iL p S • F)) (hr : iG w0 F .i32 v l) (hl : l.length ≤ 35184372087808) (hw : S.was.length ≤ 1099511627776) : gG prog 18 #[.pointer (some ⟨p, 0, none⟩), v] w fun v' w' => v' = .int .i64 (S.nS l) ∧ aB w0 w' (iL p (S.Eu l) • F) := by
 unfold SS.nS SS.Eu
 refine iF func18 ntmps18 ?_
 dsimp only [bg, Nat.reduceAdd]
 refine ay (ah (aW rfl (aA (aj (ay (ay (ah (aI rfl (dH rfl func60 (wR H) ?_)))))))))
 rintro _ _ ⟨rfl, rfl⟩
 refine aA (aj (nY (aO (aj (ay (ay ?_))))))
 obtain ⟨LQ, Ew, LU, LV, LW, LX, tZ, oN⟩ := (H).search
 have hpl := tZ.2.1
 refine ah (aI rfl (bQ rfl (bC 2 underlying75 rfl sizeOf52 rfl (bC 0 underlying52 rfl sizeOf23 rfl (eu underlying23 rfl (oN).get.2 rfl (aU (eG ((oN.f5).jH) underlying23 rfl) (aI rfl (aU (eG (hr _ (oN.right.right.right.right.right.right.right)) underlying23 rfl) (aU (dG rfl rfl (by omega)) (aU (fB rfl rfl) (aA (aj (aP rfl (fun h1 => ?_) (fun h1 => ?_))))))))))))))
 ·(try simp only [aG] at h1)
  have hbig := h1
  refine ay (ah (aW rfl (aA (aj (aK (aN (aQ (.inl rfl) results18 rfl ?_)))))))
  have KQ := oN.f7.f7.f7.f7.f7.f7.f7
  have KR := aB.kF tZ KQ
  exact ⟨by rw [if_pos (by omega)], by rw [if_pos (by omega)]; exact KR⟩
 ·(try simp only [aG] at h1)
  have hsm : ¬ 1024 < S.now.pat.length + l.length := by have h9 := h1; omega
  have Qu := oN.f7.f7.f7.f7.f7.f7.f7
  have Oo := aB.kF tZ Qu
  refine aO (aj (ay (ay (ah (aI rfl (aU (eG (hr _ (Oo.right)) underlying23 rfl) (aU (gU rfl rfl) (aA (aj (aP rfl (fun h2 => ?_) (fun h2 => ?_)))))))))))
  ·(try simp only [aG] at h2)
   have hz := h2
   refine ay (ah (aW rfl (aA (aj (aK (aN (aQ (.inl rfl) results18 rfl ?_)))))))
   exact ⟨by rw [if_neg hsm, if_pos (by omega)], by rw [if_neg hsm, if_pos (by omega)]; exact Oo⟩
  ·(try simp only [aG] at h2)
   have hnz : ¬ l.length = 0 := by have h9 := h2; omega
   refine aO (aj (ay (ah (aI rfl (dH rfl func61 (JV Oo hw) ?_)))))
   rintro _ w9 H9
   obtain ⟨LQ, Ew, LU, LV, LW, LX, tZ, oN⟩ := (H9).search
   have hpk : S.keep.now.pat.length ≤ 1024 := hpl
   have hpk2 : S.keep.now.pat.length + l.length ≤ 1024 := by show S.now.pat.length + l.length ≤ 1024; omega
   refine aA (aj (ay (ah (aI rfl (aI rfl (bQ rfl (bC 2 underlying75 rfl sizeOf52 rfl (bC 0 underlying52 rfl sizeOf23 rfl (eu underlying23 rfl (oN).get.2 rfl (aI rfl (iw (jv (vs := [_, _]) oN underlying22 sizeOf23 zeroValue23 rfl rfl rfl (by decide) (aC (by first | rfl | exact Rd.one ((oN.f5).jH)) (aC (by first | rfl | exact Rd.one (hr _ (oN.right.right.right.right.right.right.right))) bn))) ?_)))))))))))
   rintro XK Gq sD
   refine dH rfl func62 (I5 sD (fun W HW => (HW).aT) (fun W HW => (HW.f6).jH) (fun W HW => hr _ (HW.right.right.right.right.right.right.right.right)) (by first|omega|(simp only [List.length_take, List.length_drop]; omega))) ?_
   rintro Ws w12 vV
   refine bQ rfl (bC 2 underlying75 rfl sizeOf52 rfl (bC 0 underlying52 rfl sizeOf23 rfl (aJ (aS 2 (l' := [_, _, _, _, _, _, _, _, _]) vV.f3 sizeOf23 rfl rfl (by first | rfl | exact Rd.one ((vV).aT)) rfl rfl) ?_)))
   rintro _ O7 xQ
   refine aA (aj (ay ?_))
   have QS := xQ.f2
   have QT := QS.jy
   have HX : aB w0 _ (iL p (S.more l) • F) := aB.kF (S := S.more l) (Uo (RN tZ) hw hpk2) QT.f3.right.f6.right.f7.f7.f3.f7.f7.f7.f7
   obtain ⟨LQ, Ew, LU, LV, LW, LX, tZ, oN⟩ := (HX).search
   refine ah (aI rfl (aI rfl (bQ rfl (bC 2 underlying75 rfl sizeOf52 rfl (bC 4 underlying52 rfl sizeOf3 rfl (eu underlying3 rfl (oN).get.2 rfl ?_))))))
   have aa3 := oN.f7.f7.f7.f7.f7.f7.f7
   have aa4 := aB.kF tZ aa3
   refine dH rfl func63 (Hw (S := S.more l) aa4) ?_
   rintro _ SA ⟨rfl, yJ⟩
   refine aW rfl (aA (aj (aK (aQ (.inl rfl) results18 rfl ?_))))
   exact ⟨by rw [if_neg hsm, if_neg hnz]; rfl, by rw [if_neg hsm, if_neg hnz]; exact yJ⟩
end
end Go.Proofs.YtddekefihgejoaaGreatDoor
end
section
namespace Go.Proofs.YtddekefihgejoaaGreatDoor
open Go.RowKit
theorem sS {P : Program} {L : List (Nat × Value)} {w : World} {ty t : TypeId} {fs : Array Field} {f : Field} {i : Nat} {x : Operand} {cs : Array Value} {u : Value} (off : Nat) (ht : P.underlying t = some (.struct fs)) (hf : fs[i]? = some f) (ho : f.offset = off) (hp : kT P f.type = true) (hx : ev L x = some (.agg cs)) (hc : cs[off]? = some u) :
    Val P L (.field t x i) ty w u w := fun ρ hρ _ _ _ _ => by
  simp [execOp, hρ _ _ hx, Instr.field, run_underlying ht, hf, part, asAgg, yR hp, ho, hc]
end Go.Proofs.YtddekefihgejoaaGreatDoor
end
