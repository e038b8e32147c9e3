import Derived.Test.YtddekefihgejoaaGreatDoorZ2
import Derived.Test.YtddekefihgejoaaGreatDoorZ16
import Derived.Test.YtddekefihgejoaaGreatDoorZ11
import Derived.Test.YtddekefihgejoaaGreatDoorZ18
import Derived.Test.YtddekefihgejoaaGreatDoorZ8
import Derived.Test.YtddekefihgejoaaGreatDoorZ7
set_option linter.unusedSimpArgs false
set_option linter.unusedVariables false
/- Texts of mine, joined, their names in short: IsL IsL2 IsS IsN IsA IsA2 FieldVal. -/
section
namespace Go.Proofs.YtddekefihgejoaaGreatDoor
open Go.RowKit
open _root_.Go.Proofs.Tryz
def Bh (s : ByteArray) : List Int := qV (oH s)
def setAt (l : List (List Int)) (x : Int × ByteArray) : List (List Int) := l.set x.1.toNat (Bh x.2)
def bG.tH (s : bG) : List (List Int) := (s.hl.map fun x => Bh x.1) ++ [[]]
def bG.lines (s : bG) : List (List Int) := (s.saved.foldl setAt s.tH).set s.c.place.toNat s.c.L
theorem FH (l : List (List Int)) (x : Int × ByteArray) : (setAt l x).length = l.length := by unfold setAt; simp
theorem pI (xs : List (Int × ByteArray)) : ∀ l : List (List Int), (xs.foldl setAt l).length = l.length := by
  induction xs with
  | nil => intro l; rfl
  | cons x xs ih => intro l; rw [List.foldl_cons, ih, FH]
theorem bG.vN (s : bG) : s.tH.length = s.hl.length + 1 := by unfold bG.tH; simp
theorem bG.Af (s : bG) : s.lines.length = s.hl.length + 1 := by unfold bG.lines; rw [List.length_set, pI, s.vN]
theorem JC {hl : List kZ} {tx : Int → Option ByteArray} {place : Int} {n : Nat} {x : Int × ByteArray} (h : x ∈ jB hl tx place n) : (0 ≤ x.1 ∧ x.1 < n) ∧ x.2 = eY hl tx x.1 := by
  unfold jB at h
  obtain ⟨k, hk, rfl⟩ := List.mem_map.1 h
  have := (List.mem_filter.1 hk).1
  rw [List.mem_range] at this
  exact ⟨by dsimp only; omega, rfl⟩
theorem Bj {hl : List kZ} {tx : Int → Option ByteArray} {place : Int} {x : Int × ByteArray} (h : x ∈ kU hl tx place) : (0 ≤ x.1 ∧ x.1 ≤ hl.length) ∧ x.2 = eY hl tx x.1 := by
  unfold kU at h
  rcases List.mem_append.1 h with h | h
  · have := JC h; exact ⟨by omega, this.2⟩
  · split at h
    · obtain rfl := List.mem_singleton.1 h; exact ⟨by dsimp only; omega, rfl⟩
    · cases h
theorem JD (hl : List kZ) (tx : Int → Option ByteArray) (place : Int) : (kU hl tx place).length ≤ hl.length + 1 := by
  unfold kU
  have := lY hl tx place hl.length
  rw [List.length_append]
  split <;> simp <;> omega
theorem qZ.set {I : Hp} {k : IntKind} {vs : List Value} {ls : List (List Int)} {v : Value} {l : List Int} (h : qZ I k vs ls) (g : xk I k v l) (j : Nat) : qZ I k (vs.set j v) (ls.set j l) := by
  refine ⟨by simp [h.1], fun i hi => ?_⟩
  have hv := h.1
  rw [List.length_set] at hi
  by_cases e : j = i
  · subst e
    rw [List.getD_eq_getElem?_getD, List.getD_eq_getElem?_getD, List.getElem?_set_self (by omega), List.getElem?_set_self hi]
    exact g
  · have h1 := h.2 i hi
    rw [List.getD_eq_getElem?_getD, List.getD_eq_getElem?_getD] at h1 ⊢
    rw [List.getElem?_set_ne e, List.getElem?_set_ne e]
    exact h1
theorem JE {α β : Type} (f : β → α → β) (s : β) (l : List α) (d : α) {k : Nat} (h : k < l.length) : (l.take (k + 1)).foldl f s = f ((l.take k).foldl f s) (l.getD k d) := by
  rw [List.take_succ_eq_append_getElem h, List.foldl_append, List.getD_eq_getElem?_getD, List.getElem?_eq_getElem h]; rfl
theorem EK {α β : Type} [Inhabited α] (f : α → β) (l : List α) {k : Nat} (h : k < l.length) : (l.take (k + 1)).map f = (l.take k).map f ++ [f (l.getD k default)] := by
  rw [List.take_succ_eq_append_getElem h, List.map_append, List.getD_eq_getElem?_getD, List.getElem?_eq_getElem h]; rfl
section
variable {w0 w : World} {F : HP} {k : IntKind} {v : Value} {l : List Int} {vs : List Value} {ls : List (List Int)} {p : Nat} {hl : List kZ} {base most : Int}
theorem aB.JF (H : aB w0 w (pz k v l • rW k vs ls • F)) (j : Nat) : aB w0 w (rW k (vs.set j v) (ls.set j l) • F) := H.Ep (qU (fun I h g => g.set h j) F)
def Nl (c : Nat) (ls : List (List Int)) : HP := qJ fun (x : Value × List Value) => bY c (.cells #[x.1] 22 (0, 0)) • Row 23 1 x.1 ls.length x.2 • rW .i32 x.2 ls
theorem aB.Y9 {c : Nat} (H : aB w0 w (Nl c ls • F)) : ∃ u us, aB w0 w (bY c (.cells #[u] 22 (0, 0)) • Row 23 1 u ls.length us • rW .i32 us ls • F) := by
  obtain ⟨⟨u, us⟩, H⟩ := H.lg
  exact ⟨u, us, H.of_eq (by simp only [bH])⟩
theorem aB.GR {c n : Nat} {u : Value} {us : List Value} (hn : n = ls.length) (H : aB w0 w (bY c (.cells #[u] 22 (0, 0)) • Row 23 1 u n us • rW .i32 us ls • F)) : aB w0 w (Nl c ls • F) :=
  aB.gJ (u, us) (by subst hn; exact H.of_eq (by simp only [bH]))
theorem aB.JG (H : aB w0 w F) : aB w0 w (pz k (.slice none 0 0) [] • F) := H.wR fun I => ⟨none, 0, rfl, by simp, by decide, fun h => by simp at h⟩
theorem Ls (H : aB w0 w F) (hv : v.oneCell' = true) : fE prog 105 #[v] w fun v' w' => ∃ b, v' = .func (.func 151) #[] #[.pointer (some ⟨b, 0, none⟩)] ∧ aB w0 w' (bY b (.cells #[v] 24 (0, 0)) • F) := by
 refine gy func105 ntmps105 ?_
 dsimp only [aY, Nat.reduceAdd]
 refine ay (ah (gq (iw (l := [_]) H rfl (by first | rfl | exact tK (by first | rfl | assumption))) ?_))
 rintro _ w1 ⟨b1, rfl, H1⟩
 refine aV rfl (aA (aj (ay (ah (aU (qN rfl rfl) (aV rfl (aA (aj (aJ (aQ (.inl rfl) results105 rfl ?_))))))))))
 exact ⟨_, rfl, H1⟩
theorem Um (b : Nat) : Iter prog w0 (.func (.func 151) #[] #[.pointer (some ⟨b, 0, none⟩)]) (bY b (.cells #[v] 24 (0, 0)) • Row 84 2 v hl.length (hl.flatMap jH)) hl.length
  (fun k vs A => vs = [.int .i64 (k : Int), .agg (jH (hl.getD k default)).toArray] ∧ A = emp) := by
 intro l J X w hy H
 refine ⟨151, [], [.pointer (some ⟨b, 0, none⟩)], _, _, rfl, func151, rfl, rfl, ?_⟩
 have H1 : aB w0 w (bY b (.cells #[v] 24 (0, 0)) • Row 84 2 v hl.length (hl.flatMap jH) • J 0) := H.of_eq (by ac_rfl)
 obtain ⟨a, c, hv, hc1, hc2, _⟩ := (H1.swap.aO).form
 subst hv
 simp only [List.nil_append, List.cons_append]
 refine gy func151 ntmps151 ?_
 dsimp only [aY, Nat.reduceAdd]
 refine ay (ah (dO underlying24 rfl (H1).get.2 rfl (aU (fM ((H1.f2).aO) underlying24 rfl) (aN rfl (aA (aj (bf ?_)))))))
 refine fH [(0, _), (5, _), (6, _)] (fun (k : Nat) => [(7, .int .i64 (k : Int))]) (fun (k : Nat) W => k ≤ hl.length ∧ aB w0 W (bY b (.cells #[.slice a hl.length c] 24 (0, 0)) • Row 84 2 (.slice a hl.length c) hl.length (hl.flatMap jH) • J k)) (fun (k : Nat) => hl.length - k) (0) (Sub.cons rfl (Sub.cons rfl (Sub.cons rfl (Sub.nil _)))) (Sub.cons rfl (Sub.nil _)) ⟨by omega, H1⟩ ?_
 rintro k w1 ⟨hk, HL⟩
 dsimp only [List.cons_append, List.nil_append]
 refine ay (ah (aU (eu rfl rfl) (aA (aj (ay (aP rfl (fun h1 => ?_) (fun h1 => ?_)))))))
 ·(try simp only [aI] at h1)
  try (exfalso; first | contradiction | omega)
  all_goals
   refine aT (aj (ay (bf (ay ?_))))
   have hkl : k < hl.length := by omega
   refine ah (aN rfl ?_)
   obtain ⟨bv, ov, cv, ev⟩ := Rd.lD ((HL.f2).aO) (by omega)
   cases ev
   refine aU (cZ underlying24 sizeOf84 rfl rfl (by omega)) (aU (iR (ys := [_, _]) ((HL.f2).aO) (by omega) underlying84 rfl sizeOf84 rfl (jY uw (by omega) default) rfl) (gq (bU (l := [_, _]) HL zeroValue84 rfl) ?_))
   rintro _ w2 ⟨b2, rfl, H2⟩
   refine aV rfl (aG (bn 0 (l' := [_, _]) (us := [_, _]) H2 sizeOf84 rfl rfl rfl (aC (by first | rfl | assumption) (aC (by first | rfl | assumption) aZ)) rfl rfl) ?_)
   rintro _ w3 H3
   refine aA (aj (ay (ah (aN rfl (aN rfl (aU (bQ underlying84 rfl sizeOf84 rfl rfl (H3).get.2) (gq (BU rfl rfl (hy k (by omega) _ _ ⟨rfl, rfl⟩ (Row 84 2 (.slice (some ⟨bv, ov, none⟩) hl.length c) hl.length (hl.flatMap jH) • bY b (.cells #[.slice (some ⟨bv, ov, none⟩) hl.length c] 24 (0, 0))) _ ((aB.yH H3.right.f2.f2).of_eq (by ac_rfl))).bool) ?_)))))))
   rintro _ w4 ⟨t, rfl, ht1, ht2⟩
   refine aU (kJ rfl) (aA (aj (aP rfl (fun h2 => ?_) (fun h2 => ?_))))
   ·(try simp only [aI] at h2)
    try (exfalso; first | contradiction | omega)
    all_goals
     have HX := ht2 (by simpa using h2)
     refine aJ (aX (aK (aK (aX (fU (.inl rfl) results151 ?_)))))
     exact .inr (HX.of_eq (by ac_rfl))
   ·(try simp only [aI] at h2)
    try (exfalso; first | contradiction | omega)
    all_goals
     have HN : aB w0 w4 (bY b (.cells #[.slice (some ⟨bv, ov, none⟩) hl.length c] 24 (0, 0)) • Row 84 2 (.slice (some ⟨bv, ov, none⟩) hl.length c) hl.length (hl.flatMap jH) • J (k + 1)) := by
      have h9 := ht1 (by simpa using h2)
      exact h9.of_eq (by ac_rfl)
     refine aT (aH (aj (ah (aU (dS rfl rfl (by omega)) (aN rfl (aA ?_))))))
     refine dA (k + 1) ?_ ?_ ?_ ?_
     ·exact (Sub.cons rfl (Sub.nil _))
     ·exact (Sub.cons rfl (Sub.cons rfl (Sub.cons rfl (Sub.nil _))))
     ·(try dsimp only)
      first | done | exact ⟨by omega, HN.f2.f2⟩
     ·(try dsimp only); omega
 ·(try simp only [aI] at h1)
  try (exfalso; first | contradiction | omega)
  all_goals
   refine dL (aW (aW (bD (fU (.inr rfl) results151 ?_))))
   obtain rfl : k = hl.length := by omega
   exact .inl (HL.of_eq (by ac_rfl))
theorem GU (H : aB w0 w (dh p hl base most • F)) : fE prog 50 #[.pointer (some ⟨p, 0, none⟩)] w fun v' w' => ∃ b v, v' = .func (.func 151) #[] #[.pointer (some ⟨b, 0, none⟩)] ∧
  aB w0 w' (bY b (.cells #[v] 24 (0, 0)) • Row 84 2 v hl.length (hl.flatMap jH) • dh p hl base most • F) := by
 refine gy func50 ntmps50 ?_
 dsimp only [aY, Nat.reduceAdd]
 refine ay (ah (aV rfl (aA (aj (ay (ah (aV rfl (aA (aj (ay (ay (ah (aN rfl (dw rfl func103 (oN H) ?_))))))))))))))
 rintro _ _ ⟨rfl, rfl⟩
 refine aU (kJ rfl) (aA (aj (xg ?_)))
 obtain ⟨QA, uy, vG⟩ := (H).hist
 have hcl := uy.1
 refine ah (aN rfl (bP rfl (bg 0 underlying176 rfl sizeOf174 rfl (bg 0 underlying174 rfl sizeOf24 rfl (dO underlying24 rfl (vG).get.2 rfl (dw rfl func104 (vF vG (fun W HW => (HW.f2).aO) (by omega)) ?_))))))
 rintro u3 w3 H3
 refine aV rfl (aA (aj (ay (ah (aN rfl (dw rfl func105 (Ls H3 (Rd.one ((H3).aO))) ?_))))))
 rintro _ w4 ⟨bA4, rfl, H4⟩
 refine aV rfl (aA (aj (aJ (aQ (.inl rfl) results50 rfl ?_))))
 have VB := H4.f4.f4
 have VD := aB.qg uy VB
 exact ⟨_, _, rfl, VD.f3.f3⟩
end
end Go.Proofs.YtddekefihgejoaaGreatDoor
end
section
namespace Go.Proofs.YtddekefihgejoaaGreatDoor
open Go.RowKit
open _root_.Go.Proofs.Tryz
section
variable {w0 w : World} {F : HP} {e : Nat} {s : bG}
theorem OM {hl : List kZ} (h : ∀ x ∈ hl, Qz x) {k : Nat} (hk : k < hl.length) : (hl.getD k default).1.size ≤ 16384 := by
  rw [List.getD_eq_getElem?_getD, List.getElem?_eq_getElem hk]; exact (h _ (List.getElem_mem hk)).1
theorem GV (H : aB w0 w (dK e s • F)) (hT : tZ w0) : fE prog 13 #[.pointer (some ⟨e, 0, none⟩)] w fun v w' => ∃ us, aB w0 w' (Row 23 1 v s.lines.length us • rW .i32 us s.lines • dK e s • F) := by
 obtain ⟨hok, hlk⟩ : zY s.hl s.c ∧ VA s.hl s.base s.most := by
  obtain ⟨qj, ql, qo, qp, qx, qy, qA, qB, nY, mD, mF, mG, mJ, mM, mO, mP, mQ, mV, mW, mX, dF, bK, gV, dY⟩ := (H).DR
  obtain ⟨hv9, hk9, _⟩ := (dY.f7).hist
  exact ⟨dF.1, hk9⟩
 have hln := hlk.1
 have hpl := hok.1
 have hsl : s.saved.length ≤ s.hl.length + 1 := JD _ _ _
 have hpl2 := hok.2.1
 refine gy func13 ntmps13 ?_
 dsimp only [aY, Nat.reduceAdd]
 refine ay (ah (aV rfl (aA (aj (ay (ah (aN rfl (dw rfl func49 (Jl H) ?_))))))))
 rintro _ w1 ⟨q1, rfl, H1⟩
 refine aV rfl (aA (aj (ay (ay (ah (aN rfl (aU (eF underlying65 rfl rfl) (aA (aj (pJ (aT (aj (ay (ah (gq (bU (l := [_]) H1 zeroValue22 rfl) ?_)))))))))))))))
 rintro _ w2 ⟨b2, rfl, H2⟩
 refine aA (aj (ay (ay (ah (aN rfl (dw rfl func50 (GU H2.f2) ?_))))))
 rintro _ w3 ⟨bA3, lv3, rfl, H3⟩
 refine aA (aj (bf ?_))
 have KC := H3.f4
 have KD := aB.GR (us := []) (ls := (s.hl.take 0).map fun x => Bh x.1) rfl ((KC.P9.ig none).f3)
 have Hd6 := KD.f4.right
 obtain ⟨R7, hR7, HR7⟩ := aB.Ci (Hd6.f3.f3)
 refine qc rfl (Um bA3) (fun k => Nl b2 ((s.hl.take k).map fun x => Bh x.1) • R7) (fact False) (fun _ => fact False) (HR7.f3.f3.f3.f3.f3.f3.g2.comm) (by rfl) ?_ ?_ ?_ ?_
 ·rintro l8 k TI vs8 A8 ⟨rfl, rfl⟩ G8 w8 H8
  try simp only [bH, jd, mZ] at H8
  refine ⟨rfl, ?_⟩
  dsimp only [IY]
  have hkh : k < s.hl.length := by omega
  have hks := OM hlk.2.2.2.2.2 hkh
  have hb2 := uK (s.hl.getD k default).1
  have hb3 := jS (s.hl.getD k default).1
  have hb4 : (oH (s.hl.getD k default).1).length ≤ 17179869184 := by omega
  have hlt : ((s.hl.take k).map fun x => Bh x.1).length = k := by simp; omega
  obtain ⟨u, us, HI⟩ := (H8).Y9
  refine ah (gq (bU (l := [_, _]) HI zeroValue84 rfl) ?_)
  rintro _ w9 ⟨b9, rfl, H9⟩
  refine aG (bn 0 (l' := [_, _]) (us := [_, _]) H9 sizeOf84 rfl rfl rfl (aC (by first | rfl | assumption) (aC (by first | rfl | assumption) aZ)) rfl rfl) ?_
  rintro _ w10 qH
  refine aA ?_
  refine Gn (qH.g5) ?_
  intro G11 Hr uQ
  try simp only [bH] at uQ
  refine bf ?_
  have U6 := uQ.drew
  have GX := aB.kp (U6.f4.f4.f4.f4)
  refine vV [0, 2] GX rfl (gY 0 rfl GX (fun W hW => iH underlying22 rfl ((Kp.h hW).f2).get.2 rfl) (dR 1 rfl GX 0 underlying84 rfl sizeOf9 rfl (gY 2 rfl GX (fun W hW => iH underlying9 rfl ((Kp.h hW)).get.2 rfl) (jk 3 rfl (o9 U6 underlying9 underlying104 underlying5 rfl (by omega)) ?_))))
  rintro l12 w12 uf
  have yY := aB.kp (uf.f5.f5.f5.f5.f5)
  refine bT yY (fun W hW => (Kp.h hW).right.f4.f4.f4.f4) ?_
  refine jk 4 rfl (rP rfl func51 (uJ uf (by assumption) (fun W HW => (HW).jE) (by assumption) (by omega))) ?_
  rintro u13 NY xC
  have Wh := xC.jo
  have IW := aB.kp (Wh.f6.f6.f6.f6.f6.f6)
  refine bT IW (fun W hW => (Kp.h hW).right.f5.f5.f5.f5.f5) ?_
  refine jk 5 rfl (iK (vs := [_]) Wh underlying22 sizeOf23 zeroValue23 rfl rfl rfl (by decide) (aC (by first | rfl | exact Rd.one ((Wh).jE)) aZ)) ?_
  rintro l15 PY wC
  have vS := aB.kp (wC.f7.f7.f7.f7.f7.f7.f7)
  refine bT vS (fun W hW => (Kp.h hW).right.f6.f6.f6.f6.f6.f6) ?_
  refine jk 6 rfl (fF wC.f6 underlying22 (show (prog.info? 23).map (fun i => (i.zero, i.size, i.bytes)) = some (some (.slice none 0 0), 1, 24) by kernel_rfl) rfl rfl rfl ((wC).aO) (aC (by first | rfl | exact Rd.one ((wC.f2).jE)) aZ) (by omega) (by omega)) ?_
  rintro YT w16 qY
  have Gl := qY.f2.right
  have xE := aB.kp (Gl.f6.f6.f6.f6.f6.f6)
  refine dN xE (by kernel_rfl) ?_
  refine dJ 7 rfl (by kernel_rfl) (aS 0 (l' := [_]) Gl.f5 sizeOf22 rfl rfl (by first | rfl | exact Rd.one ((Gl).aO)) rfl rfl) ?_
  rintro _ Sv zB
  have yZ := aB.kp (zB.f6.f6.f6.f6.f6.f6)
  refine dN yZ (by kernel_rfl) ?_
  refine nT (aH ?_)
  refine xW ?_
  rw [EK _ _ hkh]
  exact (aB.GR (by simp) (aB.EZ zB.f4.right.f4.right.f2.f2.f3.f4).f3.f3).deep
 ·rintro D19 PZ uY
  have YC := uY.ed
  try simp only [bH, jd, mZ] at YC
  have YD := YC.HY
  subst hR7
  rw [List.take_of_length_le (Nat.le_refl _)] at YD
  obtain ⟨u, us, HI⟩ := (YD.f4).Y9
  have hl0 : (s.hl.map fun x => Bh x.1).length = s.hl.length := by simp
  refine aH (aj (ay (ah (dO underlying22 rfl (HI).get.2 rfl (gq (iK (vs := [_]) HI underlying22 sizeOf23 zeroValue23 rfl rfl rfl (by decide) (aC (by first | rfl | assumption) aZ)) ?_)))))
  rintro XT Sz yD
  refine gq (fF yD.f3 underlying22 (show (prog.info? 23).map (fun i => (i.zero, i.size, i.bytes)) = some (some (.slice none 0 0), 1, 24) by kernel_rfl) rfl rfl rfl ((yD).aO) (aC (by first | rfl | assumption) aZ) (by omega) (by omega)) ?_
  rintro ZN TA oV
  have BI := oV.f2.right
  refine aG (aS 0 (l' := [_]) BI.f2 sizeOf22 rfl rfl (by first | rfl | exact Rd.one ((BI).aO)) rfl rfl) ?_
  rintro _ O7 rV
  refine aA (aj (ay ?_))
  have VI := rV.f3
  have VJ := ((VI).JG.swap).EZ
  have VK := VJ.f3.f3
  have VL := aB.GR (ls := s.tH) (by rw [s.vN, hl0]) VK
  refine ah (aN rfl (dw rfl func16 (vM VL.f5) ?_))
  rintro _ YQ ⟨u28, aaY, aaZ, YE, rfl, SB⟩
  obtain ⟨bus, rfl⟩ : ∃ q, q = aaZ := ⟨_, rfl⟩
  refine gq (bU (l := [_, _, _, _, _, _, _, _, _, _, _, _, _, _, _, _, _]) SB zeroValue44 rfl) ?_
  rintro _ Zj ⟨b29, rfl, N7⟩
  refine aG (bn 0 (l' := [_, _, _, _, _, _, _, _, _, _, _, _, _, _, _, _, _]) (us := [_, _, _, _, _, _, _, _, _, _, _, _, _, _, _, _, _]) N7 sizeOf44 rfl rfl rfl (aC (by first | rfl | exact Rd.one ((N7.f2).aO)) (aC (by first | rfl | assumption) (aC (by first | rfl | assumption) (aC (by first | rfl | assumption) (aC (by first | rfl | assumption) (aC (by first | rfl | assumption) (aC (by first | rfl | assumption) (aC (by first | rfl | assumption) (aC (by first | rfl | assumption) (aC (by first | rfl | assumption) (aC (by first | rfl | assumption) (aC (by first | rfl | exact Rd.one ((N7.f3).aO)) (aC (by first | rfl | assumption) (aC (by first | rfl | exact Rd.one ((N7.f5).aO)) (aC (by first | rfl | assumption) (aC (by first | rfl | assumption) (aC (by first | rfl | assumption) aZ))))))))))))))))) rfl rfl) ?_
  rintro _ YR JY
  refine aA (aj (ay (ay (ah (bg 13 underlying44 rfl sizeOf42 rfl (dO underlying42 rfl (JY).get.2 rfl (aU (fM ((JY.f5).aO) underlying42 rfl) (aN rfl (aA (aj (bf ?_)))))))))))
  refine fH [(4, _), (7, _), (31, _), (32, _)] (fun (j : Nat) => [(33, .int .i64 (j : Int))]) (fun (j : Nat) W => j ≤ s.saved.length ∧ aB w0 W (Marks [D19] • Nl b2 ((s.saved.take j).foldl setAt s.tH) • bY b29 (.cells (Ec s u28 aaY YE).toArray 44 (0, 0)) • gZ 21 .i32 u28 s.c.L • Row 106 2 YE s.saved.length (s.saved.flatMap Fv) • dK e s • F)) (fun (j : Nat) => s.saved.length - j) (0) (Sub.cons rfl (Sub.cons rfl (Sub.cons rfl (Sub.cons rfl (Sub.nil _))))) (Sub.cons rfl (Sub.nil _)) ⟨by omega, JY.f3.right.f3.right.f7.right.f7.right.f4.f4.f4.f4.f5.f6⟩ ?_
  rintro j Wq ⟨hj, HJ⟩
  dsimp only [List.cons_append, List.nil_append]
  refine ay (ah (aU (eu rfl rfl) (aA (aj (ay (aP rfl (fun h1 => ?_) (fun h1 => ?_)))))))
  ·(try simp only [aI] at h1)
   refine aT (aj (ay (bf (ay ?_))))
   have hjl : j < s.saved.length := by omega
   obtain ⟨hx1, hx2⟩ := Bj (show s.saved.getD j default ∈ s.saved from by rw [List.getD_eq_getElem?_getD, List.getElem?_eq_getElem hjl]; exact List.getElem_mem hjl)
   have hxs : (s.saved.getD j default).2.size ≤ 16384 := by rw [hx2]; exact lZ hlk.2.2.2.2.2 hok.2.2 _
   have hc2 := uK (s.saved.getD j default).2
   have hc3 := jS (s.saved.getD j default).2
   have hc4 : (oH (s.saved.getD j default).2).length ≤ 17179869184 := by omega
   have hfl : ((s.saved.take j).foldl setAt s.tH).length = s.hl.length + 1 := by rw [pI, s.vN]
   obtain ⟨u2, us2, HI2⟩ := (HJ.f2).Y9
   refine ah ?_
   obtain ⟨abF, abG, abH, YF⟩ := Rd.lD ((HI2.f7).aO) (by omega)
   cases YF
   refine aU (cZ underlying42 sizeOf106 rfl rfl (by omega)) (aU (iR (ys := [_, _]) ((HI2.f7).aO) (by omega) underlying106 rfl sizeOf106 rfl (jY OA (by omega) default) rfl) (gq (bU (l := [_, _]) HI2 zeroValue106 rfl) ?_))
   rintro _ w32 ⟨b32, rfl, Et⟩
   refine aG (bn 0 (l' := [_, _]) (us := [_, _]) Et sizeOf106 rfl rfl rfl (aC (by first | rfl | assumption) (aC (by first | rfl | assumption) aZ)) rfl rfl) ?_
   rintro _ YS Kw
   refine aA (aj ?_)
   have RI := Kw.drew
   have wZ := aB.kp (RI.f9.f9.f9.f9.f9.f9.f9.f9.f9)
   refine vV [0, 2, 4] wZ rfl (gY 0 rfl wZ (fun W hW => iH underlying22 rfl ((Kp.h hW).f2).get.2 rfl) (dR 1 rfl wZ 0 underlying106 rfl sizeOf3 rfl (gY 2 rfl wZ (fun W hW => iH underlying3 rfl ((Kp.h hW)).get.2 rfl) (dR 3 rfl wZ 1 underlying106 rfl sizeOf9 rfl (gY 4 rfl wZ (fun W hW => iH underlying9 rfl ((Kp.h hW)).get.2 rfl) (jk 5 rfl (o9 RI underlying9 underlying104 underlying5 rfl (by omega)) ?_))))))
   rintro l34 YX MW
   have AV := aB.kp (MW.f10.f10.f10.f10.f10.f10.f10.f10.f10.f10)
   refine bT AV (fun W hW => (Kp.h hW).right.f9.f9.f9.f9.f9.f9.f9.f9.f9) ?_
   refine jk 6 rfl (rP rfl func51 (uJ MW (by assumption) (fun W HW => (HW).jE) (by assumption) (by omega))) ?_
   rintro u35 Z8 TT
   have Un := TT.jo
   have Nk := aB.kp (Un.f11.f11.f11.f11.f11.f11.f11.f11.f11.f11.f11)
   refine bT Nk (fun W hW => (Kp.h hW).right.f10.f10.f10.f10.f10.f10.f10.f10.f10.f10) ?_
   obtain ⟨bu2, ou2, cu2, eu2⟩ := Rd.lD ((Un.f5).aO) (by omega)
   cases eu2
   refine iJ 7 rfl Nk (fun _ => cZ underlying22 sizeOf23 rfl rfl (by omega)) ?_
   refine dJ 8 rfl (by kernel_rfl) (yS 0 Un.f5 sizeOf23 rfl rfl (by first | rfl | exact Rd.one ((Un).jE)) (by omega) (by decide)) ?_
   rintro _ w37 UU
   have Rx := aB.kp (UU.f11.f11.f11.f11.f11.f11.f11.f11.f11.f11.f11)
   refine dN Rx (by kernel_rfl) ?_
   simp only [Nat.mul_one, Nat.add_zero] at UU
   have aa0 := UU.f5.f6.f4
   have aa1 := aB.GR (ls := setAt ((s.saved.take j).foldl setAt s.tH) (s.saved.getD j default)) (by rw [FH]) ((aB.JF aa0 (s.saved.getD j default).1.toNat).f3.f3)
   refine nT (aH (aj (ah (aU (dS rfl rfl (by omega)) (aN rfl (aA ?_))))))
   refine dA (j + 1) ?_ ?_ ?_ ?_
   ·exact (Sub.cons rfl (Sub.nil _))
   ·exact (Sub.cons rfl (Sub.cons rfl (Sub.cons rfl (Sub.cons rfl (Sub.nil _)))))
   ·(try dsimp only)
    first | done | exact ⟨by omega, by rw [JE _ _ _ default hjl]; exact aa1.f2.right.f2.right.f6.f6.f6.f6.f5.f6⟩
   ·(try dsimp only); omega
  ·(try simp only [aI] at h1)
   refine dL (aW (aW (bD (aj (ay ?_)))))
   obtain rfl : j = s.saved.length := by omega
   rw [List.take_of_length_le (Nat.le_refl _)] at HJ
   have hfl : (s.saved.foldl setAt s.tH).length = s.hl.length + 1 := by rw [pI, s.vN]
   obtain ⟨u3, us3, HI3⟩ := (HJ.f2).Y9
   have VZ := HI3.f6
   have Jq := aB.jo VZ
   refine ah (dO underlying22 rfl (Jq.f2).get.2 rfl (bg 12 underlying44 rfl sizeOf3 rfl (dO underlying3 rfl (Jq.f6).get.2 rfl (bg 0 underlying44 rfl sizeOf41 rfl (bg 0 underlying41 rfl sizeOf23 rfl (dO underlying23 rfl (Jq.f6).get.2 rfl ?_))))))
   obtain ⟨bu3, ou3, cu3, Xy⟩ := Rd.lD ((Jq.f3).aO) (by omega)
   cases Xy
   refine aU (cZ underlying22 sizeOf23 rfl rfl (by omega)) (aG (yS 0 Jq.f3 sizeOf23 rfl rfl (by first | rfl | exact Rd.one ((Jq).jE)) (by omega) (by decide)) ?_)
   rintro _ w42 SC
   refine aA (aj (ay (ah (dO underlying22 rfl (SC.f3).get.2 rfl (aV rfl (aA (aj (aJ ?_))))))))
   refine yJ (.inl rfl) (SC.f5) (fun Y0 SE => ?_)
   refine ⟨_, SH results13 rfl, ?_⟩
   simp only [Nat.mul_one, Nat.add_zero, Ec, List.getElem_toArray, List.getElem_cons_zero] at SE
   have X := aB.JF SE.f3.right.f4.right.f4.right.f4.f2.f4.f4 s.c.place.toNat
   exact ⟨_, by rw [show s.lines.length = (s.saved.foldl setAt s.tH).length from by rw [s.Af, hfl]]; exact X.swap⟩
 ·rintro D w H; exact absurd H.swap.fact.1 id
 ·rintro id D w H; exact absurd H.swap.fact.1 fun h => h
end
end Go.Proofs.YtddekefihgejoaaGreatDoor
end
section
namespace Go.Proofs.YtddekefihgejoaaGreatDoor
open Go.RowKit
structure O8 where
  pat : List Int
  back : Bool
  failed : Bool
  place : Int
  at_ : Int
deriving Inhabited
structure SS where
  L : List (List Int)
  last : List Int
  now : O8
  was : List O8
def Cc (pv : Value) (t : O8) (n : Nat) : List Value := [pv, .bool t.back, .bool t.failed, .int .i64 t.place, .int .i64 t.at_, .int .i64 (n : Int)]
def GY (lv Lu pv uv : Value) (t : O8) (n : Nat) : List Value := [lv, Lu, pv, .bool t.back, .bool t.failed, .int .i64 t.place, .int .i64 t.at_, .int .i64 (n : Int), uv]
def Np (I : Hp) (p n : Nat) (v : Value) (t : O8) : Prop := ∃ (old box : Nat) (pv : Value), v = .func (.func 119) #[] #[.pointer (some ⟨old, 0, none⟩), .pointer (some ⟨box, 0, none⟩)] ∧
  I old = some (.cells (Cc pv t n).toArray 52 (0, 0)) ∧ I box = some (.cells #[.pointer (some ⟨p, 0, none⟩)] 46 (0, 0)) ∧ xk I .i32 pv t.pat
def Wi (I : Hp) (p n : Nat) (vs : List Value) (ts : List O8) : Prop := vs.length = ts.length ∧ ∀ j, j < ts.length → Np I p n (vs.getD j undef) (ts.getD j default)
theorem Np.mono {I I' : Hp} {p n : Nat} {v : Value} {t : O8} (hl : Hp.le I I') (h : Np I p n v t) : Np I' p n v t := by
  obtain ⟨old, box, pv, h1, h2, h3, h4⟩ := h
  exact ⟨old, box, pv, h1, hl _ _ h2, hl _ _ h3, h4.mono hl⟩
def Ag (p n : Nat) (vs : List Value) (ts : List O8) : HP := know (fun I => Wi I p n vs ts) fun _ _ hl h => ⟨h.1, fun j hj => (h.2 j hj).mono hl⟩
def BM (S : SS) : Prop := (0 < S.L.length ∧ S.L.length ≤ 4097 ∧ ∀ k, k < S.L.length → (S.L.getD k []).length ≤ 16384) ∧ S.now.pat.length ≤ 1024 ∧ (0 ≤ S.now.place ∧ S.now.place < S.L.length) ∧ S.was.length ≤ 35184372087808 ∧ ∀ t ∈ S.was, t.pat.length ≤ 1024 ∧ 0 ≤ t.place ∧ t.place < S.L.length
def iD (p : Nat) (S : SS) : HP := qJ fun (x : Value × Value × Value × Value × List Value × List Value) => fact (BM S) • bY p (.cells (GY x.1 x.2.1 x.2.2.1 x.2.2.2.1 S.now S.L.length).toArray 75 (0, 0)) •
  Row 23 1 x.1 S.L.length x.2.2.2.2.1 • rW .i32 x.2.2.2.2.1 S.L • pz .i32 x.2.1 S.last • pz .i32 x.2.2.1 S.now.pat • Row 1 1 x.2.2.2.1 S.was.length x.2.2.2.2.2 • Ag p S.L.length x.2.2.2.2.2 S.was
section
variable {w0 w : World} {F : HP} {p n : Nat} {S : SS} {lv Lu pv uv : Value} {us ws : List Value}
theorem aB.RJ {k : IntKind} {v : Value} {l : List Int} (H : aB w0 w (pz k v l • F)) : aB w0 w (pz k v l • pz k v l • F) := H.yG
theorem aB.search (H : aB w0 w (iD p S • F)) : ∃ lv Lu pv uv us ws, BM S ∧ aB w0 w (bY p (.cells (GY lv Lu pv uv S.now S.L.length).toArray 75 (0, 0)) • Row 23 1 lv S.L.length us • rW .i32 us S.L • pz .i32 Lu S.last • pz .i32 pv S.now.pat •
    Row 1 1 uv S.was.length ws • Ag p S.L.length ws S.was • F) := by
  obtain ⟨⟨lv, Lu, pv, uv, us, ws⟩, H⟩ := H.lg
  obtain ⟨h, H⟩ := H.flat.fact
  exact ⟨lv, Lu, pv, uv, us, ws, h, H.of_eq (by simp only [bH])⟩
theorem aB.kC (h : BM S) (H : aB w0 w (bY p (.cells (GY lv Lu pv uv S.now S.L.length).toArray 75 (0, 0)) • Row 23 1 lv S.L.length us • rW .i32 us S.L • pz .i32 Lu S.last • pz .i32 pv S.now.pat • Row 1 1 uv S.was.length ws • Ag p S.L.length ws S.was • F)) :
    aB w0 w (iD p S • F) := aB.gJ (lv, Lu, pv, uv, us, ws) (aB.deep (aB.jL h (H.of_eq (by simp only [bH]))))
theorem OO (H : aB w0 w F) : aB w0 w (Ag p n [] [] • F) := H.wR fun I => ⟨rfl, fun j hj => by simp at hj⟩
theorem LC {vs : List Value} {ts : List O8} {old box : Nat} {t : O8} (H : aB w0 w (Ag p n vs ts • Za old (.cells (Cc pv t n).toArray 52 (0, 0)) • Za box (.cells #[.pointer (some ⟨p, 0, none⟩)] 46 (0, 0)) • pz .i32 pv t.pat • F)) :
    aB w0 w (Ag p n (vs ++ [.func (.func 119) #[] #[.pointer (some ⟨old, 0, none⟩), .pointer (some ⟨box, 0, none⟩)]]) (ts ++ [t]) • F) := by
  refine H.Ep fun I x ha => ?_
  have h1 := (iF _ _ _ I x).1 ha
  have h2 := (iF _ _ _ I x).1 h1.2
  have h3 := (iF _ _ _ I x).1 h2.2
  have h4 := (iF _ _ _ I x).1 h3.2
  refine (iF _ _ F I x).2 ⟨⟨by simp [h1.1.1], fun j hj => ?_⟩, h4.2⟩
  have hl := h1.1.1
  rw [List.length_append, List.length_singleton] at hj
  by_cases e : j < ts.length
  · rw [jX (by omega), jX e]; exact h1.1.2 j e
  · rw [jG (by omega), jG (by omega), show j - vs.length = 0 from by omega, show j - ts.length = 0 from by omega]
    exact ⟨old, box, pv, rfl, h2.1, h3.1, h4.1⟩
end
end Go.Proofs.YtddekefihgejoaaGreatDoor
end
section
namespace Go.Proofs.YtddekefihgejoaaGreatDoor
open Go.RowKit
open _root_.Go.Proofs.Tryz
namespace SS
def start (L : List (List Int)) (last : List Int) (back : Bool) (place at_ : Int) : SS := ⟨L, last, ⟨[], back, false, place, at_⟩, []⟩
def found (S : SS) (at_ : Int) : Int × Int × Bool := nS S.L S.now.place at_ S.now.pat S.now.back
def FI (S : SS) (at_ : Int) : Int := if (S.found at_).2.2 then 0 else 6
def Bl (S : SS) (at_ : Int) : SS := if (S.found at_).2.2 then { S with now := { S.now with failed := false, place := (S.found at_).1, at_ := (S.found at_).2.1 } } else { S with now := { S.now with failed := true } }
def keep (S : SS) : SS := { S with was := S.was ++ [S.now] }
def more (S : SS) (l : List Int) : SS := { S.keep with now := { S.now with pat := S.now.pat ++ l } }
def nN (S : SS) (l : List Int) : Int := if 1024 < S.now.pat.length + l.length then 3 else if l.length = 0 then 0 else (S.more l).FI S.now.at_
def Ee (S : SS) (l : List Int) : SS := if 1024 < S.now.pat.length + l.length then S else if l.length = 0 then S else (S.more l).Bl S.now.at_
def abI (S : SS) : Int := if S.was.length = 0 then 6 else 0
def abJ (S : SS) : SS := if S.was.length = 0 then S else { S with now := S.was.getD (S.was.length - 1) default, was := S.was.take (S.was.length - 1) }
end SS
section
variable {w0 w : World} {F : HP} {p n e : Nat} {S : SS} {s : bG} {v lv Lu pv uv : Value} {us ws : List Value} {l : List Int} {back : Bool} {at_ : Int}
theorem wM (H : aB w0 w (iD p S • F)) : fE prog 60 #[.pointer (some ⟨p, 0, none⟩)] w fun v w' => v = .bool false ∧ w = w' := by
 refine gy func60 ntmps60 ?_
 dsimp only [aY, Nat.reduceAdd]
 refine ay (ah (aV rfl (aA (aj (ay ?_)))))
 obtain ⟨LD, Ef, LG, LH, LJ, LK, tJ, oI⟩ := (H).search
 obtain ⟨abK, abL, abM, YG⟩ := Rd.lD ((oI.f2).aO) (by have h9 := tJ.1.1; omega)
 cases YG
 refine ah (aN rfl (aU (eF underlying46 rfl rfl) (jy rfl (fun h1 => ?_) (fun h1 => ?_))))
 ·(try simp only [aI] at h1)
  try (exfalso; first | contradiction | omega)
  all_goals
   refine bF (bF (bF (bF (bF (jw rfl rfl (aV rfl (aA (aj (aJ (aQ (.inl rfl) results60 rfl ?_))))))))))
   exact ⟨rfl, rfl⟩
 ·(try simp only [aI] at h1)
  try (exfalso; first | contradiction | omega)
  all_goals
   refine bC (aN rfl (bC (bP rfl (bC (bg 0 underlying75 rfl sizeOf22 rfl (bC (dO underlying22 rfl (oI).get.2 rfl (bC (aU (jm underlying22 rfl rfl) (iU rfl rfl (aV rfl (aA (aj (aJ (aQ (.inl rfl) results60 rfl ?_)))))))))))))))
   exact ⟨rfl, rfl⟩
theorem OQ (hlen : s.hl.length ≤ 4096) (hp : 0 ≤ s.c.place ∧ s.c.place ≤ s.hl.length) (hL : ∀ k, k < s.lines.length → (s.lines.getD k []).length ≤ 16384) : BM (.start s.lines l back s.c.place at_) := by
  have := s.Af
  exact ⟨⟨by show 0 < s.lines.length; omega, by show s.lines.length ≤ 4097; omega, hL⟩, by show 0 ≤ 1024; omega, by show 0 ≤ s.c.place ∧ s.c.place < s.lines.length; omega, by show 0 ≤ _; omega, fun t ht => by cases ht⟩
theorem JH {s : bG} (h1 : ∀ x ∈ s.hl, x.1.size ≤ 16384) (h2 : ∀ x ∈ s.saved, x.2.size ≤ 16384) (h3 : s.c.L.length ≤ 16384) : ∀ k, k < s.lines.length → (s.lines.getD k []).length ≤ 16384 := by
  have ht : ∀ b : ByteArray, b.size ≤ 16384 → (Bh b).length ≤ 16384 := fun b hb => by have := Kt (oH b); rw [jS] at this; unfold Bh; omega
  have key : ∀ (xs : List (Int × ByteArray)) (l : List (List Int)), (∀ x ∈ xs, x.2.size ≤ 16384) → (∀ x ∈ l, x.length ≤ 16384) → ∀ x ∈ xs.foldl setAt l, x.length ≤ 16384 := by
    intro xs
    induction xs with
    | nil => intro l _ h; exact h
    | cons y xs ih =>
      intro l hx hl
      rw [List.foldl_cons]
      refine ih _ (fun x h => hx x (List.mem_cons_of_mem _ h)) fun x h => ?_
      rcases List.mem_or_eq_of_mem_set h with h | rfl
      · exact hl x h
      · exact ht _ (hx y (List.mem_cons_self ..))
  have all : ∀ x ∈ s.lines, x.length ≤ 16384 := fun x h => by
    unfold bG.lines at h
    rcases List.mem_or_eq_of_mem_set h with h | rfl
    · refine key _ _ h2 (fun x h => ?_) x h
      unfold bG.tH at h
      rcases List.mem_append.1 h with h | h
      · obtain ⟨y, hy, rfl⟩ := List.mem_map.1 h; exact ht _ (h1 y hy)
      · obtain rfl := List.mem_singleton.1 h; simp
    · exact h3
  intro k hk
  rw [List.getD_eq_getElem?_getD, List.getElem?_eq_getElem hk]
  exact all _ (List.getElem_mem hk)
theorem LM (H : aB w0 w (dK e s • F)) (hr : iT w0 F .i32 v l) (hl : l.length ≤ 35184372087808) (hT : tZ w0) : fE prog 17 #[.pointer (some ⟨e, 0, none⟩), .bool back, v] w fun v' w' => ∃ p, v' = .tuple #[.pointer (some ⟨p, 0, none⟩), .int .i64 0] ∧
  aB w0 w' (iD p (.start s.lines l back s.c.place s.c.pt) • dK e s • F) := by
 obtain ⟨hok, hlk, hsL⟩ : zY s.hl s.c ∧ VA s.hl s.base s.most ∧ s.c.L.length ≤ 1024 := by
  obtain ⟨qj, ql, qo, qp, qx, qy, qA, qB, nY, mD, mF, mG, mJ, mM, mO, mP, mQ, mV, mW, mX, dF, bK, gV, dY⟩ := (H).DR
  obtain ⟨hv9, hk9, _⟩ := (dY.f7).hist
  have hL : s.c.L.length ≤ 1024 := by obtain ⟨a, c, xs, f, t, h1, h2, h3, h4, h5, h6, h7, hc1, hc2, hl, H1⟩ := (dY.f2).buf; exact h4
  exact ⟨dF.1, hk9, hL⟩
 have hlen := s.Af
 have hsh := JH (s := s) (fun x hx => (hlk.2.2.2.2.2 x hx).1) (fun x hx => by rw [(Bj hx).2]; exact lZ hlk.2.2.2.2.2 hok.2.2 _) (by omega)
 have hln := hlk.1
 refine gy func17 ntmps17 ?_
 dsimp only [aY, Nat.reduceAdd]
 refine ay (ah (aV rfl (aV rfl (aA (aj (ay (ah (aN rfl (dw rfl func13 (GV H (by assumption)) ?_)))))))))
 rintro u1 w1 ⟨us1, H1⟩
 obtain ⟨lus, rfl⟩ : ∃ q, q = us1 := ⟨_, rfl⟩
 obtain ⟨bu1, ou1, cu1, eu1⟩ := Rd.lD ((H1).aO) (by omega)
 cases eu1
 refine aV rfl (aA (aj (ay (ay (ah (aN rfl (aU (jm underlying22 rfl rfl) (aA (aj (pJ (aT (aj (ay (ah (aN rfl (dw rfl func16 (vM H1.f3) ?_))))))))))))))))
 rintro _ w2 ⟨u2, ks2, us2, sv2, rfl, H2⟩
 obtain ⟨bus, rfl⟩ : ∃ q, q = us2 := ⟨_, rfl⟩
 refine gq (bU (l := [_, _, _, _, _, _, _, _, _, _, _, _, _, _, _, _, _]) H2 zeroValue44 rfl) ?_
 rintro _ w3 ⟨b3, rfl, H3⟩
 refine aG (bn 0 (l' := [_, _, _, _, _, _, _, _, _, _, _, _, _, _, _, _, _]) (us := [_, _, _, _, _, _, _, _, _, _, _, _, _, _, _, _, _]) H3 sizeOf44 rfl rfl rfl (aC (by first | rfl | exact Rd.one ((H3.f2).aO)) (aC (by first | rfl | assumption) (aC (by first | rfl | assumption) (aC (by first | rfl | assumption) (aC (by first | rfl | assumption) (aC (by first | rfl | assumption) (aC (by first | rfl | assumption) (aC (by first | rfl | assumption) (aC (by first | rfl | assumption) (aC (by first | rfl | assumption) (aC (by first | rfl | assumption) (aC (by first | rfl | exact Rd.one ((H3.f3).aO)) (aC (by first | rfl | assumption) (aC (by first | rfl | exact Rd.one ((H3.f5).aO)) (aC (by first | rfl | assumption) (aC (by first | rfl | assumption) (aC (by first | rfl | assumption) aZ))))))))))))))))) rfl rfl) ?_
 rintro _ w4 H4
 refine aA (aj (ay ?_))
 have Ru := H4.drew
 have jg := aB.kp (Ru.f8.f8.f8.f8.f8.f8.f8.f8)
 refine vV [5, 8] jg rfl (gQ 0 rfl jg rfl (gQ 1 rfl jg rfl (gQ 3 rfl jg rfl (dR 4 rfl jg 12 underlying44 rfl sizeOf3 rfl (gY 5 rfl jg (fun W hW => iH underlying3 rfl ((Kp.h hW)).get.2 rfl) (dR 6 rfl jg 0 underlying44 rfl sizeOf41 rfl (dR 7 rfl jg 1 underlying41 rfl sizeOf3 rfl (gY 8 rfl jg (fun W hW => iH underlying3 rfl ((Kp.h hW)).get.2 rfl) (gQ 9 rfl jg rfl (iJ 10 rfl jg (fun _ => iZ underlying22 rfl) ?_))))))))))
 refine iJ 11 rfl jg (fun _ => cO (zl := [.slice none 0 0, .bool false, .bool false, .int .i64 0, .int .i64 0, .int .i64 0]) (pl := [(0, 1), (1, 1), (2, 1), (3, 1), (4, 1), (5, 1)]) [_, _, _, _, _, _] underlying52 zeroValue52 rfl (fun w => by kernel_rfl) rfl (.zero (zs := [.slice none 0 0]) rfl (.one (by first | rfl | assumption) (.zero (zs := [.bool false]) rfl (.one (by first | rfl | assumption) (.one (by first | rfl | assumption) (.one (by first | rfl | assumption) .nil)))))) rfl) ?_
 refine jk 2 rfl (rP rfl func59 (kS Ru (fun W HW => hr _ (HW.right.right.right.right.right.right.right.right)) (by omega))) ?_
 rintro u5 w5 H5
 have uq := aB.kp (H5.f9.f9.f9.f9.f9.f9.f9.f9.f9)
 refine bT uq (fun W hW => (Kp.h hW).right.f8.f8.f8.f8.f8.f8.f8.f8) ?_
 refine iJ 12 rfl uq (fun _ => cO (zl := [.slice none 0 0, .slice none 0 0, .slice none 0 0, .bool false, .bool false, .int .i64 0, .int .i64 0, .int .i64 0, .slice none 0 0]) (pl := [(0, 1), (1, 1), (2, 6), (8, 1)]) [_, _, _, _, _, _, _, _, _] underlying75 zeroValue75 rfl (fun w => by kernel_rfl) rfl (.one (Rd.one ((H5.f8).aO)) (.one (Rd.one ((H5).aO)) (.agg (us := [_, _, _, _, _, _]) (zs := [.slice none 0 0, .bool false, .bool false, .int .i64 0, .int .i64 0, .int .i64 0]) rfl rfl (.zero (zs := [.slice none 0 0]) rfl .nil)))) rfl) (jk 13 rfl (iw (l := [_, _, _, _, _, _, _, _, _]) H5 rfl rfl) ?_)
 rintro _ w6 ⟨b6, rfl, H6⟩
 have BJ := aB.kp (H6.f10.f10.f10.f10.f10.f10.f10.f10.f10.f10)
 refine dN BJ (by kernel_rfl) ?_
 refine iJ 14 rfl BJ (fun _ => eP rfl) (iJ 15 rfl BJ (fun _ => eP rfl) (nT (aj (aJ (fV (.inl rfl) results17 rfl rfl ?_)))))
 have X := OO (p := b6) (n := s.lines.length) (aB.ig (e := 1) (sz := 1) (aB.JG (k := .i32) (H6.f3.right.f3.right.f3.right.f3.right.f3.right.f3.f5.f5.f4.f5).jo) none)
 exact ⟨_, rfl, aB.kC (S := .start s.lines l back s.c.place s.c.pt) (OQ hln ⟨hok.1, hok.2.1⟩ hsh) X.f2.f3.f4.f7.f7.f7⟩
end
end Go.Proofs.YtddekefihgejoaaGreatDoor
end
section
namespace Go.Proofs.YtddekefihgejoaaGreatDoor
open Go.RowKit
open _root_.Go.Proofs.Tryz
theorem Nq {S : SS} (h : BM S) (hw : S.was.length ≤ 1099511627776) : BM S.keep := by
  obtain ⟨h1, h2, h3, h4, h5⟩ := h
  refine ⟨h1, h2, h3, by show (S.was ++ [S.now]).length ≤ _; simp; omega, fun t ht => ?_⟩
  rcases List.mem_append.1 ht with h | h
  · exact h5 t h
  · obtain rfl := List.mem_singleton.1 h; exact ⟨h2, h3⟩
section
variable {w0 w : World} {F : HP} {p n e : Nat} {S : SS} {v lv Lu pv uv : Value} {us ws : List Value} {l : List Int} {back : Bool} {at_ : Int}
theorem JI (H : aB w0 w (iD p S • F)) (hw : S.was.length ≤ 1099511627776) : fE prog 61 #[.pointer (some ⟨p, 0, none⟩)] w fun v w' => aB w0 w' (iD p S.keep • F) := by
 refine gy func61 ntmps61 ?_
 dsimp only [aY, Nat.reduceAdd]
 refine ay (ah (gq (iw (l := [_]) H rfl rfl) ?_))
 rintro _ w1 ⟨b1, rfl, H1⟩
 refine aA (aj (ay ?_))
 obtain ⟨LD, Ef, LG, LH, LJ, LK, tJ, oI⟩ := (H1.f2).search
 refine ah (dO underlying46 rfl (oI.f8).get.2 rfl (bP rfl (bg 2 underlying75 rfl sizeOf52 rfl (aU (oQ 2 (xs := [_, _, _, _, _, _]) underlying52 rfl sizeOf52 rfl rfl (oI).get.2 rfl) (gq (bU (l := [_, _, _, _, _, _]) oI zeroValue52 rfl) ?_)))))
 rintro _ w3 ⟨b3, rfl, H3⟩
 refine aG (bn 0 (l' := [_, _, _, _, _, _]) (us := [_, _, _, _, _, _]) H3 sizeOf52 rfl rfl rfl (aC (by first | rfl | exact Rd.one ((H3.f6).jE)) (aC (by first | rfl | assumption) (aC (by first | rfl | assumption) (aC (by first | rfl | assumption) (aC (by first | rfl | assumption) (aC (by first | rfl | assumption) aZ)))))) rfl rfl) ?_
 rintro _ w4 H4
 refine aA (aj ?_)
 have YH := H4.drew
 have Eh := aB.kp (YH.f7.right.f8.f8.f8.f8.f8.f8.f8.f8)
 refine vV [0, 1, 4] Eh rfl (gY 0 rfl Eh (fun W hW => iH underlying46 rfl ((Kp.h hW).f8).get.2 rfl) (gY 1 rfl Eh (fun W hW => iH underlying46 rfl ((Kp.h hW).f8).get.2 rfl) (iQ 2 rfl Eh rfl (dR 3 rfl Eh 8 underlying75 rfl sizeOf73 rfl (gY 4 rfl Eh (fun W hW => iH underlying73 rfl ((Kp.h hW).f2).get.2 rfl) (iJ 5 rfl Eh (fun _ => qN rfl rfl) (jk 6 rfl (iK (vs := [_]) YH underlying73 sizeOf1 zeroValue1 rfl rfl rfl (by decide) (aC (by first | rfl | assumption) aZ)) ?_)))))))
 rintro l5 w5 H5
 have uq := aB.kp (H5.right.f7.right.f8.f8.f8.f8.f8.f8.f8.f8)
 refine bT uq (fun W hW => (Kp.h hW).f8.f8.f8.f8.f8.f8.f8.f8) ?_
 refine jk 7 rfl (fF H5.f8 underlying73 (show (prog.info? 1).map (fun i => (i.zero, i.size, i.bytes)) = some (some (.nilFunc), 1, 8) by kernel_rfl) rfl rfl rfl ((H5).aO) (aC (by first | rfl | assumption) aZ) (by omega) (by omega)) ?_
 rintro l6 w6 H6
 have TK := H6.f2.right
 have xq := aB.kp (TK.f9.f9.f9.f9.f9.f9.f9.f9.f9)
 refine bT xq (fun W hW => (Kp.h hW).right.f8.f8.f8.f8.f8.f8.f8.f8) ?_
 refine iQ 8 rfl xq rfl (dR 9 rfl xq 8 underlying75 rfl sizeOf73 rfl ?_)
 refine dJ 10 rfl (by kernel_rfl) (aS 8 (l' := [_, _, _, _, _, _, _, _, _]) TK.f3 sizeOf73 rfl rfl (by first | rfl | exact Rd.one ((TK).aO)) rfl rfl) ?_
 rintro _ w8 H8
 have IV := aB.kp (H8.f9.f9.f9.f9.f9.f9.f9.f9.f9)
 refine dN IV (by kernel_rfl) ?_
 refine nT (fU (.inr rfl) results61 ?_)
 have X := ((H8.f2.f6.f6.f6.f5.f8.f8.f9.f9).freeze.swap.freeze.f3).RJ
 have X2 := LC (t := S.now) X.f3.f4.f5
 exact aB.kC (S := S.keep) (Nq tJ hw) (by show aB w0 _ (_ • _ • _ • _ • _ • Row _ _ _ (S.was ++ [S.now]).length _ • _ • F); rw [List.length_append, List.length_singleton]; exact X2.f7.f3.f7.f7.f7.f7)
end
end Go.Proofs.YtddekefihgejoaaGreatDoor
end
section
namespace Go.Proofs.YtddekefihgejoaaGreatDoor
open Go.RowKit
open _root_.Go.Proofs.Tryz
theorem JJ {L : List (List Int)} {place at_ : Int} {pat : List Int} {back : Bool} (h : (nS L place at_ pat back).2.2 = true) : 0 ≤ (nS L place at_ pat back).1 ∧ (nS L place at_ pat back).1 < L.length ∧ 0 ≤ (nS L place at_ pat back).2.1 := by
  have kb : ∀ n, n ≤ L.length → (xO L place at_ pat n).2.2 = true → 0 ≤ (xO L place at_ pat n).1 ∧ (xO L place at_ pat n).1 < L.length ∧ 0 ≤ (xO L place at_ pat n).2.1 := by
    intro n
    induction n with
    | zero => intro _ h; cases h
    | succ n ih =>
      intro hn h
      unfold xO at h ⊢
      split
      · rename_i h1; exact ⟨by show (0 : Int) ≤ (n : Nat); omega, by show ((n : Nat) : Int) < _; omega, h1⟩
      · rename_i h1; rw [if_neg h1] at h; exact ih (by omega) h
  have kf : ∀ n i, i + n ≤ L.length → (findF L place at_ pat n i).2.2 = true → 0 ≤ (findF L place at_ pat n i).1 ∧ (findF L place at_ pat n i).1 < L.length ∧ 0 ≤ (findF L place at_ pat n i).2.1 := by
    intro n
    induction n with
    | zero => intro i _ h; cases h
    | succ n ih =>
      intro i hn h
      unfold findF at h ⊢
      split
      · rename_i h1; exact ⟨by show (0 : Int) ≤ (i : Nat); omega, by show ((i : Nat) : Int) < _; omega, h1⟩
      · rename_i h1; rw [if_neg h1] at h; exact ih _ (by omega) h
  unfold nS at h ⊢
  split
  · rename_i hb; rw [if_pos hb] at h; cases h
  · rename_i hb
    rw [if_neg hb] at h
    split
    · rename_i hk; rw [if_pos hk] at h; exact kb _ (by omega) h
    · rename_i hk; rw [if_neg hk] at h; exact kf _ _ (by omega) h
theorem Nr {S : SS} (h : BM S) (a : Int) : BM (S.Bl a) := by
  obtain ⟨h1, h2, h3, h4, h5⟩ := h
  unfold SS.Bl
  split
  · rename_i hf
    have := JJ hf
    exact ⟨h1, h2, ⟨this.1, this.2.1⟩, h4, h5⟩
  · exact ⟨h1, h2, h3, h4, h5⟩
section
variable {w0 w : World} {F : HP} {p n e : Nat} {S : SS} {v lv Lu pv uv : Value} {us ws : List Value} {l : List Int} {back : Bool} {at_ : Int}
theorem GZ (H : aB w0 w (iD p S • F)) : fE prog 63 #[.pointer (some ⟨p, 0, none⟩), .int .i64 at_] w fun v w' => v = .int .i64 (S.FI at_) ∧ aB w0 w' (iD p (S.Bl at_) • F) := by
 refine gy func63 ntmps63 ?_
 dsimp only [aY, Nat.reduceAdd]
 refine ay (ah (aV rfl (aA (aj (ay ?_)))))
 obtain ⟨LD, Ef, LG, LH, LJ, LK, tJ, oI⟩ := (H).search
 have Og := oI.drew
 have iM := aB.kp (Og.f7.f7.f7.f7.f7.f7.f7)
 refine vV [3, 8, 14, 19] iM rfl (gQ 0 rfl iM rfl (iQ 1 rfl iM rfl (dR 2 rfl iM 0 underlying75 rfl sizeOf22 rfl (gY 3 rfl iM (fun W hW => iH underlying22 rfl ((Kp.h hW)).get.2 rfl) (gQ 4 rfl iM rfl (iQ 5 rfl iM rfl (dR 6 rfl iM 2 underlying75 rfl sizeOf52 rfl (dR 7 rfl iM 3 underlying52 rfl sizeOf3 rfl (gY 8 rfl iM (fun W hW => iH underlying3 rfl ((Kp.h hW)).get.2 rfl) (gQ 9 rfl iM rfl (gQ 10 rfl iM rfl (iQ 11 rfl iM rfl (dR 12 rfl iM 2 underlying75 rfl sizeOf52 rfl (dR 13 rfl iM 0 underlying52 rfl sizeOf23 rfl (gY 14 rfl iM (fun W hW => iH underlying23 rfl ((Kp.h hW)).get.2 rfl) (gQ 15 rfl iM rfl (iQ 16 rfl iM rfl (dR 17 rfl iM 2 underlying75 rfl sizeOf52 rfl (dR 18 rfl iM 1 underlying52 rfl sizeOf4 rfl (gY 19 rfl iM (fun W hW => iH underlying4 rfl ((Kp.h hW)).get.2 rfl) (jk 20 rfl (rP rfl func7 (JB (ls := S.L) (p := S.now.pat) Og (fun W HW => HW.f2.aO) (fun k hk W HW => HW.f3.TD hk) (fun W HW => HW.f5.jE) (by have := tJ.1.2.1; omega) (fun k hk => by have := tJ.1.2.2 k hk; omega))) ?_)))))))))))))))))))))
 rintro _ w2 ⟨rfl, H2⟩
 have y5 := aB.kp (H2.f7.f7.f7.f7.f7.f7.f7)
 refine dN y5 (by kernel_rfl) ?_
 refine gQ 21 rfl y5 rfl (iJ 22 rfl y5 (fun _ => qG rfl rfl) (iJ 23 rfl y5 (fun _ => qG rfl rfl) (iJ 24 rfl y5 (fun _ => qG rfl rfl) (iJ 25 rfl y5 (fun _ => eP rfl) (iJ 26 rfl y5 (fun _ => eP rfl) (iJ 27 rfl y5 (fun _ => eP rfl) (nT (aj (ay ?_)))))))))
 obtain ⟨r, hr⟩ : ∃ r, nS S.L S.now.place at_ S.now.pat S.now.back = r := ⟨_, rfl⟩
 rw [hr]
 refine ah (aN rfl (aN rfl (aU (kJ rfl) (bP rfl (bg 2 underlying75 rfl sizeOf52 rfl (bg 2 underlying52 rfl sizeOf4 rfl (aG (aS 4 (l' := [_, _, _, _, _, _, _, _, _]) H2 sizeOf4 rfl rfl (by first | rfl | assumption) rfl rfl) ?_)))))))
 rintro _ w3 H3
 refine aA (aj (ay (ay (ah (aN rfl (aU (kJ rfl) (aA (aj (aP rfl (fun h1 => ?_) (fun h1 => ?_))))))))))
 ·(try simp only [aI] at h1)
  have hno : r.2.2 = false := by have h9 := h1; simpa using h9
  refine ay (ah (aV rfl (aA (aj (aJ (aK (aQ (.inl rfl) results63 rfl ?_)))))))
  have e1 : S.Bl at_ = { S with now := { S.now with failed := true } } := by unfold SS.Bl SS.found; rw [hr, if_neg (by rw [hno]; decide)]
  have e2 : S.FI at_ = 6 := by unfold SS.FI SS.found; rw [hr, if_neg (by rw [hno]; decide)]
  have X := H3
  rw [hno] at X
  exact ⟨by rw [e2], e1 ▸ aB.kC (S := { S with now := { S.now with failed := true } }) (e1 ▸ Nr tJ at_) X⟩
 ·(try simp only [aI] at h1)
  have hyes : r.2.2 = true := by have h9 := h1; simpa using h9
  refine aT (aj (ay (ah (aN rfl (aN rfl (aN rfl (aN rfl (bP rfl (bg 2 underlying75 rfl sizeOf52 rfl (bg 3 underlying52 rfl sizeOf3 rfl (aG (aS 5 (l' := [_, _, _, _, _, _, _, _, _]) H3 sizeOf3 rfl rfl (by first | rfl | assumption) rfl rfl) ?_)))))))))))
  rintro _ w4 H4
  refine bP rfl (bg 2 underlying75 rfl sizeOf52 rfl (bg 4 underlying52 rfl sizeOf3 rfl (aG (aS 6 (l' := [_, _, _, _, _, _, _, _, _]) H4 sizeOf3 rfl rfl (by first | rfl | assumption) rfl rfl) ?_)))
  rintro _ w5 H5
  refine aA (aj (ay (ah (aV rfl (aA (aj (aJ (aQ (.inl rfl) results63 rfl ?_))))))))
  have e1 : S.Bl at_ = { S with now := { S.now with failed := false, place := r.1, at_ := r.2.1 } } := by unfold SS.Bl SS.found; rw [hr, if_pos hyes]
  have e2 : S.FI at_ = 0 := by unfold SS.FI SS.found; rw [hr, if_pos hyes]
  have X := H5
  rw [hyes] at X
  exact ⟨by rw [e2], e1 ▸ aB.kC (S := { S with now := { S.now with failed := false, place := r.1, at_ := r.2.1 } }) (e1 ▸ Nr tJ at_) X⟩
theorem RN (h : BM S.keep) : BM S := by
  obtain ⟨h1, h2, h3, h4, h5⟩ := h
  have : (S.was ++ [S.now]).length ≤ 35184372087808 := h4
  rw [List.length_append, List.length_singleton] at this
  exact ⟨h1, h2, h3, by omega, fun t ht => h5 t (List.mem_append_left _ ht)⟩
theorem Uo (h : BM S) (hw : S.was.length ≤ 1099511627776) (hl : S.now.pat.length + l.length ≤ 1024) : BM (S.more l) := by
  obtain ⟨h1, h2, h3, h4, h5⟩ := Nq h hw
  exact ⟨h1, by show (S.now.pat ++ l).length ≤ 1024; rw [List.length_append]; omega, h3, h4, h5⟩
theorem LP (H : aB w0 w (iD p S • F)) (hr : iT w0 F .i32 v l) (hl : l.length ≤ 35184372087808) (hw : S.was.length ≤ 1099511627776) : fE prog 18 #[.pointer (some ⟨p, 0, none⟩), v] w fun v' w' => v' = .int .i64 (S.nN l) ∧ aB w0 w' (iD p (S.Ee l) • F) := by
 unfold SS.nN SS.Ee
 refine gy func18 ntmps18 ?_
 dsimp only [aY, Nat.reduceAdd]
 refine ay (ah (aV rfl (aA (aj (ay (ay (ah (aN rfl (dw rfl func60 (wM H) ?_)))))))))
 rintro _ _ ⟨rfl, rfl⟩
 refine aA (aj (pJ (aT (aj (ay (ay ?_))))))
 obtain ⟨LD, Ef, LG, LH, LJ, LK, tJ, oI⟩ := (H).search
 have hpl := tJ.2.1
 refine ah (aN rfl (bP rfl (bg 2 underlying75 rfl sizeOf52 rfl (bg 0 underlying52 rfl sizeOf23 rfl (dO underlying23 rfl (oI).get.2 rfl (aU (gG ((oI.f5).jE) underlying23 rfl) (aN rfl (aU (gG (hr _ (oI.right.right.right.right.right.right.right)) underlying23 rfl) (aU (dS rfl rfl (by omega)) (aU (fZ rfl rfl) (aA (aj (aP rfl (fun h1 => ?_) (fun h1 => ?_))))))))))))))
 ·(try simp only [aI] at h1)
  have hbig := h1
  refine ay (ah (aV rfl (aA (aj (aJ (aK (aQ (.inl rfl) results18 rfl ?_)))))))
  have KC := oI.f7.f7.f7.f7.f7.f7.f7
  have KD := aB.kC tJ KC
  exact ⟨by rw [if_pos (by omega)], by rw [if_pos (by omega)]; exact KD⟩
 ·(try simp only [aI] at h1)
  have hsm : ¬ 1024 < S.now.pat.length + l.length := by have h9 := h1; omega
  have Qu := oI.f7.f7.f7.f7.f7.f7.f7
  have Oi := aB.kC tJ Qu
  refine aT (aj (ay (ay (ah (aN rfl (aU (gG (hr _ (Oi.right)) underlying23 rfl) (aU (iY rfl rfl) (aA (aj (aP rfl (fun h2 => ?_) (fun h2 => ?_)))))))))))
  ·(try simp only [aI] at h2)
   have hz := h2
   refine ay (ah (aV rfl (aA (aj (aJ (aK (aQ (.inl rfl) results18 rfl ?_)))))))
   exact ⟨by rw [if_neg hsm, if_pos (by omega)], by rw [if_neg hsm, if_pos (by omega)]; exact Oi⟩
  ·(try simp only [aI] at h2)
   have hnz : ¬ l.length = 0 := by have h9 := h2; omega
   refine aT (aj (ay (ah (aN rfl (dw rfl func61 (JI Oi hw) ?_)))))
   rintro _ w9 H9
   obtain ⟨LD, Ef, LG, LH, LJ, LK, tJ, oI⟩ := (H9).search
   have hpk : S.keep.now.pat.length ≤ 1024 := hpl
   have hpk2 : S.keep.now.pat.length + l.length ≤ 1024 := by show S.now.pat.length + l.length ≤ 1024; omega
   refine aA (aj (ay (ah (aN rfl (aN rfl (bP rfl (bg 2 underlying75 rfl sizeOf52 rfl (bg 0 underlying52 rfl sizeOf23 rfl (dO underlying23 rfl (oI).get.2 rfl (aN rfl (gq (iK (vs := [_, _]) oI underlying22 sizeOf23 zeroValue23 rfl rfl rfl (by decide) (aC (by first | rfl | exact Rd.one ((oI.f5).jE)) (aC (by first | rfl | exact Rd.one (hr _ (oI.right.right.right.right.right.right.right))) aZ))) ?_)))))))))))
   rintro XI Hr uQ
   refine dw rfl func62 (IG uQ (fun W HW => (HW).aO) (fun W HW => (HW.f6).jE) (fun W HW => hr _ (HW.right.right.right.right.right.right.right.right)) (by first|omega|(simp only [List.length_take, List.length_drop]; omega))) ?_
   rintro Wn w12 uf
   refine bP rfl (bg 2 underlying75 rfl sizeOf52 rfl (bg 0 underlying52 rfl sizeOf23 rfl (aG (aS 2 (l' := [_, _, _, _, _, _, _, _, _]) uf.f3 sizeOf23 rfl rfl (by first | rfl | exact Rd.one ((uf).aO)) rfl rfl) ?_)))
   rintro _ NY xC
   refine aA (aj (ay ?_))
   have QS := xC.f2
   have QT := QS.jo
   have HX : aB w0 _ (iD p (S.more l) • F) := aB.kC (S := S.more l) (Uo (RN tJ) hw hpk2) QT.f3.right.f6.right.f7.f7.f3.f7.f7.f7.f7
   obtain ⟨LD, Ef, LG, LH, LJ, LK, tJ, oI⟩ := (HX).search
   refine ah (aN rfl (aN rfl (bP rfl (bg 2 underlying75 rfl sizeOf52 rfl (bg 4 underlying52 rfl sizeOf3 rfl (dO underlying3 rfl (oI).get.2 rfl ?_))))))
   have aa2 := oI.f7.f7.f7.f7.f7.f7.f7
   have aa3 := aB.kC tJ aa2
   refine dw rfl func63 (GZ (S := S.more l) aa3) ?_
   rintro _ Sz ⟨rfl, yD⟩
   refine aV rfl (aA (aj (aJ (aQ (.inl rfl) results18 rfl ?_))))
   exact ⟨by rw [if_neg hsm, if_neg hnz]; rfl, by rw [if_neg hsm, if_neg hnz]; exact yD⟩
end
end Go.Proofs.YtddekefihgejoaaGreatDoor
end
section
namespace Go.Proofs.YtddekefihgejoaaGreatDoor
open Go.RowKit
theorem sH {P : Program} {L : List (Nat × Value)} {w : World} {ty t : TypeId} {fs : Array Field} {f : Field} {i : Nat} {x : Operand} {cs : Array Value} {u : Value} (off : Nat) (ht : P.underlying t = some (.struct fs)) (hf : fs[i]? = some f) (ho : f.offset = off) (hp : kQ P f.type = true) (hx : ev L x = some (.agg cs)) (hc : cs[off]? = some u) :
    Val P L (.field t x i) ty w u w := fun ρ hρ _ _ _ _ => by
  simp [execOp, hρ _ _ hx, Instr.field, run_underlying ht, hf, part, asAgg, yK hp, ho, hc]
end Go.Proofs.YtddekefihgejoaaGreatDoor
end
