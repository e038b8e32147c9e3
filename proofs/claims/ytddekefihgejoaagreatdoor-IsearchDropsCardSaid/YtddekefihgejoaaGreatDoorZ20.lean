import Derived.Test.YtddekefihgejoaaGreatDoorZ2
import Derived.Test.YtddekefihgejoaaGreatDoorZ17
import Derived.Test.YtddekefihgejoaaGreatDoorZ12
import Derived.Test.YtddekefihgejoaaGreatDoorZ19
import Derived.Test.YtddekefihgejoaaGreatDoorZ8
import Derived.Test.YtddekefihgejoaaGreatDoorZ5
set_option linter.unusedSimpArgs false
set_option linter.unusedVariables false
/- Texts of mine, joined, their names in short: IsL IsL2 IsS IsN IsA IsA2 FieldVal. -/
section
namespace Go.Proofs.YtddekefihgejoaaGreatDoor
open Go.RowKit
open _root_.Go.Proofs.Tryz
def CB (s : ByteArray) : List Int := su (pz s)
def setAt (l : List (List Int)) (x : Int × ByteArray) : List (List Int) := l.set x.1.toNat (CB x.2)
def bH.uy (s : bH) : List (List Int) := (s.hl.map fun x => CB x.1) ++ [[]]
def bH.lines (s : bH) : List (List Int) := (s.saved.foldl setAt s.uy).set s.c.place.toNat s.c.L
theorem Gz (l : List (List Int)) (x : Int × ByteArray) : (setAt l x).length = l.length := by unfold setAt; simp
theorem qG (xs : List (Int × ByteArray)) : ∀ l : List (List Int), (xs.foldl setAt l).length = l.length := by
  induction xs with
  | nil => intro l; rfl
  | cons x xs ih => intro l; rw [List.foldl_cons, ih, Gz]
theorem bH.wJ (s : bH) : s.uy.length = s.hl.length + 1 := by unfold bH.uy; simp
theorem bH.Bv (s : bH) : s.lines.length = s.hl.length + 1 := by unfold bH.lines; rw [List.length_set, qG, s.wJ]
theorem KG {hl : List lg} {tx : Int → Option ByteArray} {place : Int} {n : Nat} {x : Int × ByteArray} (h : x ∈ jM hl tx place n) : (0 ≤ x.1 ∧ x.1 < n) ∧ x.2 = fE hl tx x.1 := by
  unfold jM at h
  obtain ⟨k, hk, rfl⟩ := List.mem_map.1 h
  have := (List.mem_filter.1 hk).1
  rw [List.mem_range] at this
  exact ⟨by dsimp only; omega, rfl⟩
theorem CG {hl : List lg} {tx : Int → Option ByteArray} {place : Int} {x : Int × ByteArray} (h : x ∈ lG hl tx place) : (0 ≤ x.1 ∧ x.1 ≤ hl.length) ∧ x.2 = fE hl tx x.1 := by
  unfold lG at h
  rcases List.mem_append.1 h with h | h
  · have := KG h; exact ⟨by omega, this.2⟩
  · split at h
    · obtain rfl := List.mem_singleton.1 h; exact ⟨by dsimp only; omega, rfl⟩
    · cases h
theorem KH (hl : List lg) (tx : Int → Option ByteArray) (place : Int) : (lG hl tx place).length ≤ hl.length + 1 := by
  unfold lG
  have := mW hl tx place hl.length
  rw [List.length_append]
  split <;> simp <;> omega
theorem sG.set {I : Hp} {k : IntKind} {vs : List Value} {ls : List (List Int)} {v : Value} {l : List Int} (h : sG I k vs ls) (g : yj I k v l) (j : Nat) : sG I k (vs.set j v) (ls.set j l) := by
  refine ⟨by simp [h.1], fun i hi => ?_⟩
  have hv := h.1
  rw [List.length_set] at hi
  by_cases e : j = i
  · subst e
    rw [List.getD_eq_getElem?_getD, List.getD_eq_getElem?_getD, List.getElem?_set_self (by omega), List.getElem?_set_self hi]
    exact g
  · have h1 := h.2 i hi
    rw [List.getD_eq_getElem?_getD, List.getD_eq_getElem?_getD] at h1 ⊢
    rw [List.getElem?_set_ne e, List.getElem?_set_ne e]
    exact h1
theorem KI {α β : Type} (f : β → α → β) (s : β) (l : List α) (d : α) {k : Nat} (h : k < l.length) : (l.take (k + 1)).foldl f s = f ((l.take k).foldl f s) (l.getD k d) := by
  rw [List.take_succ_eq_append_getElem h, List.foldl_append, List.getD_eq_getElem?_getD, List.getElem?_eq_getElem h]; rfl
theorem FM {α β : Type} [Inhabited α] (f : α → β) (l : List α) {k : Nat} (h : k < l.length) : (l.take (k + 1)).map f = (l.take k).map f ++ [f (l.getD k default)] := by
  rw [List.take_succ_eq_append_getElem h, List.map_append, List.getD_eq_getElem?_getD, List.getElem?_eq_getElem h]; rfl
section
variable {w0 w : World} {F : HP} {k : IntKind} {v : Value} {l : List Int} {vs : List Value} {ls : List (List Int)} {p : Nat} {hl : List lg} {base most : Int}
theorem aA.KJ (H : aA w0 w (nY k v l • sH k vs ls • F)) (j : Nat) : aA w0 w (sH k (vs.set j v) (ls.set j l) • F) := H.Dh (rZ (fun I h g => g.set h j) F)
def Oj (c : Nat) (ls : List (List Int)) : HP := qC fun (x : Value × List Value) => cO c (.cells #[x.1] 22 (0, 0)) • Row 23 1 x.1 ls.length x.2 • sH .i32 x.2 ls
theorem aA.Z9 {c : Nat} (H : aA w0 w (Oj c ls • F)) : ∃ u us, aA w0 w (cO c (.cells #[u] 22 (0, 0)) • Row 23 1 u ls.length us • sH .i32 us ls • F) := by
  obtain ⟨⟨u, us⟩, H⟩ := H.kU
  exact ⟨u, us, H.of_eq (by simp only [bF])⟩
theorem aA.Ir {c n : Nat} {u : Value} {us : List Value} (hn : n = ls.length) (H : aA w0 w (cO c (.cells #[u] 22 (0, 0)) • Row 23 1 u n us • sH .i32 us ls • F)) : aA w0 w (Oj c ls • F) :=
  aA.gY (u, us) (by subst hn; exact H.of_eq (by simp only [bF]))
theorem aA.KL (H : aA w0 w F) : aA w0 w (nY k (.slice none 0 0) [] • F) := H.xR fun I => ⟨none, 0, rfl, by simp, by decide, fun h => by simp at h⟩
theorem Na (H : aA w0 w F) (hv : v.oneCell' = true) : fQ prog 105 #[v] w fun v' w' => ∃ b, v' = .func (.func 151) #[] #[.pointer (some ⟨b, 0, none⟩)] ∧ aA w0 w' (cO b (.cells #[v] 24 (0, 0)) • F) := by
 refine iw func105 ntmps105 ?_
 dsimp only [aZ, Nat.reduceAdd]
 refine ay (ah (gB (ig (l := [_]) H rfl (by first | rfl | exact xQ (by first | rfl | assumption))) ?_))
 rintro _ w1 ⟨b1, rfl, H1⟩
 refine aW rfl (aB (aj (ay (ah (aU (rV rfl rfl) (aW rfl (aB (aj (aN (aT (.inl rfl) results105 rfl ?_))))))))))
 exact ⟨_, rfl, H1⟩
theorem Va (b : Nat) : Iter prog w0 (.func (.func 151) #[] #[.pointer (some ⟨b, 0, none⟩)]) (cO b (.cells #[v] 24 (0, 0)) • Row 84 2 v hl.length (hl.flatMap iM)) hl.length
  (fun k vs A => vs = [.int .i64 (k : Int), .agg (iM (hl.getD k default)).toArray] ∧ A = emp) := by
 intro l J X w hy H
 refine ⟨151, [], [.pointer (some ⟨b, 0, none⟩)], _, _, rfl, func151, rfl, rfl, ?_⟩
 have H1 : aA w0 w (cO b (.cells #[v] 24 (0, 0)) • Row 84 2 v hl.length (hl.flatMap iM) • J 0) := H.of_eq (by ac_rfl)
 obtain ⟨a, c, hv, hc1, hc2, _⟩ := (H1.swap.aJ).form
 subst hv
 simp only [List.nil_append, List.cons_append]
 refine iw func151 ntmps151 ?_
 dsimp only [aZ, Nat.reduceAdd]
 refine ay (ah (dA underlying24 rfl (H1).get.2 rfl (aU (eY ((H1.f2).aJ) underlying24 rfl) (aP rfl (aB (aj (aY ?_)))))))
 refine eP [(0, _), (5, _), (6, _)] (fun (k : Nat) => [(7, .int .i64 (k : Int))]) (fun (k : Nat) W => k ≤ hl.length ∧ aA w0 W (cO b (.cells #[.slice a hl.length c] 24 (0, 0)) • Row 84 2 (.slice a hl.length c) hl.length (hl.flatMap iM) • J k)) (fun (k : Nat) => hl.length - k) (0) (Sub.cons rfl (Sub.cons rfl (Sub.cons rfl (Sub.nil _)))) (Sub.cons rfl (Sub.nil _)) ⟨by omega, H1⟩ ?_
 rintro k w1 ⟨hk, HL⟩
 dsimp only [List.cons_append, List.nil_append]
 refine ay (ah (aU (dV rfl rfl) (aB (aj (ay (aO rfl (fun h1 => ?_) (fun h1 => ?_)))))))
 ·(try simp only [aG] at h1)
  try (exfalso; first | contradiction | omega)
  all_goals
   refine aQ (aj (ay (aY (ay ?_))))
   have hkl : k < hl.length := by omega
   refine ah (aP rfl ?_)
   obtain ⟨bv, ov, cv, ev⟩ := Rd.kN ((HL.f2).aJ) (by omega)
   cases ev
   refine aU (bV underlying24 sizeOf84 rfl rfl (by omega)) (aU (iG (ys := [_, _]) ((HL.f2).aJ) (by omega) underlying84 rfl sizeOf84 rfl (jw uS (by omega) default) rfl) (gB (bW (l := [_, _]) HL zeroValue84 rfl) ?_))
   rintro _ w2 ⟨b2, rfl, H2⟩
   refine aW rfl (aI (bC 0 (l' := [_, _]) (us := [_, _]) H2 sizeOf84 rfl rfl rfl (aC (by first | rfl | assumption) (aC (by first | rfl | assumption) bg)) rfl rfl) ?_)
   rintro _ w3 H3
   refine aB (aj (ay (ah (aP rfl (aP rfl (aU (bQ underlying84 rfl sizeOf84 rfl rfl (H3).get.2) (gB (Dq rfl rfl (hy k (by omega) _ _ ⟨rfl, rfl⟩ (Row 84 2 (.slice (some ⟨bv, ov, none⟩) hl.length c) hl.length (hl.flatMap iM) • cO b (.cells #[.slice (some ⟨bv, ov, none⟩) hl.length c] 24 (0, 0))) _ ((aA.zo H3.right.f2.f2).of_eq (by ac_rfl))).bool) ?_)))))))
   rintro _ w4 ⟨t, rfl, ht1, ht2⟩
   refine aU (jT rfl) (aB (aj (aO rfl (fun h2 => ?_) (fun h2 => ?_))))
   ·(try simp only [aG] at h2)
    try (exfalso; first | contradiction | omega)
    all_goals
     have HX := ht2 (by simpa using h2)
     refine aN (aX (aK (aK (aX (gq (.inl rfl) results151 ?_)))))
     exact .inr (HX.of_eq (by ac_rfl))
   ·(try simp only [aG] at h2)
    try (exfalso; first | contradiction | omega)
    all_goals
     have HN : aA w0 w4 (cO b (.cells #[.slice (some ⟨bv, ov, none⟩) hl.length c] 24 (0, 0)) • Row 84 2 (.slice (some ⟨bv, ov, none⟩) hl.length c) hl.length (hl.flatMap iM) • J (k + 1)) := by
      have h9 := ht1 (by simpa using h2)
      exact h9.of_eq (by ac_rfl)
     refine aQ (aH (aj (ah (aU (dR rfl rfl (by omega)) (aP rfl (aB ?_))))))
     refine bZ (k + 1) ?_ ?_ ?_ ?_
     ·exact (Sub.cons rfl (Sub.nil _))
     ·exact (Sub.cons rfl (Sub.cons rfl (Sub.cons rfl (Sub.nil _))))
     ·(try dsimp only)
      first | done | exact ⟨by omega, HN.f2.f2⟩
     ·(try dsimp only); omega
 ·(try simp only [aG] at h1)
  try (exfalso; first | contradiction | omega)
  all_goals
   refine dK (aV (aV (bD (gq (.inr rfl) results151 ?_))))
   obtain rfl : k = hl.length := by omega
   exact .inl (HL.of_eq (by ac_rfl))
theorem Iu (H : aA w0 w (dn p hl base most • F)) : fQ prog 50 #[.pointer (some ⟨p, 0, none⟩)] w fun v' w' => ∃ b v, v' = .func (.func 151) #[] #[.pointer (some ⟨b, 0, none⟩)] ∧
  aA w0 w' (cO b (.cells #[v] 24 (0, 0)) • Row 84 2 v hl.length (hl.flatMap iM) • dn p hl base most • F) := by
 refine iw func50 ntmps50 ?_
 dsimp only [aZ, Nat.reduceAdd]
 refine ay (ah (aW rfl (aB (aj (ay (ah (aW rfl (aB (aj (ay (ay (ah (aP rfl (dD rfl func103 (pJ H) ?_))))))))))))))
 rintro _ _ ⟨rfl, rfl⟩
 refine aU (jT rfl) (aB (aj (Dj ?_)))
 obtain ⟨QL, uT, wo⟩ := (H).hist
 have hcl := uT.1
 refine ah (aP rfl (bT rfl (bf 0 underlying176 rfl sizeOf174 rfl (bf 0 underlying174 rfl sizeOf24 rfl (dA underlying24 rfl (wo).get.2 rfl (dD rfl func104 (vZ wo (fun W HW => (HW.f2).aJ) (by omega)) ?_))))))
 rintro u3 w3 H3
 refine aW rfl (aB (aj (ay (ah (aP rfl (dD rfl func105 (Na H3 (Rd.one ((H3).aJ))) ?_))))))
 rintro _ w4 ⟨bA4, rfl, H4⟩
 refine aW rfl (aB (aj (aN (aT (.inl rfl) results50 rfl ?_))))
 have Wj := H4.f4.f4
 have Wn := aA.qW uT Wj
 exact ⟨_, _, rfl, Wn.f3.f3⟩
end
end Go.Proofs.YtddekefihgejoaaGreatDoor
end
section
namespace Go.Proofs.YtddekefihgejoaaGreatDoor
open Go.RowKit
open _root_.Go.Proofs.Tryz
section
variable {w0 w : World} {F : HP} {e : Nat} {s : bH}
theorem PY {hl : List lg} (h : ∀ x ∈ hl, QK x) {k : Nat} (hk : k < hl.length) : (hl.getD k default).1.size ≤ 16384 := by
  rw [List.getD_eq_getElem?_getD, List.getElem?_eq_getElem hk]; exact (h _ (List.getElem_mem hk)).1
theorem Iw (H : aA w0 w (dN e s • F)) (hT : tu w0) : fQ prog 13 #[.pointer (some ⟨e, 0, none⟩)] w fun v w' => ∃ us, aA w0 w' (Row 23 1 v s.lines.length us • sH .i32 us s.lines • dN e s • F) := by
 obtain ⟨hok, hlk⟩ : Bg s.hl s.c ∧ Wi s.hl s.base s.most := by
  obtain ⟨qZ, ru, rC, rD, rE, rF, rG, rH, oL, mZ, ng, ni, ny, nC, nD, nG, nH, nI, nJ, nK, dL, bM, iC, eU⟩ := (H).Ey
  obtain ⟨hv9, hk9, _⟩ := (eU.f7).hist
  exact ⟨dL.1, hk9⟩
 have hln := hlk.1
 have hpl := hok.1
 have hsl : s.saved.length ≤ s.hl.length + 1 := KH _ _ _
 have hpl2 := hok.2.1
 refine iw func13 ntmps13 ?_
 dsimp only [aZ, Nat.reduceAdd]
 refine ay (ah (aW rfl (aB (aj (ay (ah (aP rfl (dD rfl func49 (J7 H) ?_))))))))
 rintro _ w1 ⟨q1, rfl, H1⟩
 refine aW rfl (aB (aj (ay (ay (ah (aP rfl (aU (fO underlying65 rfl rfl) (aB (aj (pW (aQ (aj (ay (ah (gB (bW (l := [_]) H1 zeroValue22 rfl) ?_)))))))))))))))
 rintro _ w2 ⟨b2, rfl, H2⟩
 refine aB (aj (ay (ay (ah (aP rfl (dD rfl func50 (Iu H2.f2) ?_))))))
 rintro _ w3 ⟨bA3, lv3, rfl, H3⟩
 refine aB (aj (aY ?_))
 have Js := H3.f4
 have Jt := aA.Ir (us := []) (ls := (s.hl.take 0).map fun x => CB x.1) rfl ((Js.QG.iH none).f3)
 have Hd6 := Jt.f4.right
 obtain ⟨R7, hR7, HR7⟩ := aA.Dx (Hd6.f3.f3)
 refine qY rfl (Va bA3) (fun k => Oj b2 ((s.hl.take k).map fun x => CB x.1) • R7) (fact False) (fun _ => fact False) (HR7.f3.f3.f3.f3.f3.f3.g2.comm) (by rfl) ?_ ?_ ?_ ?_
 ·rintro l8 k UF vs8 A8 ⟨rfl, rfl⟩ G8 w8 H8
  try simp only [bF, ji, nO] at H8
  refine ⟨rfl, ?_⟩
  dsimp only [JI]
  have hkh : k < s.hl.length := by omega
  have hks := PY hlk.2.2.2.2.2 hkh
  have hb2 := vC (s.hl.getD k default).1
  have hb3 := jZ (s.hl.getD k default).1
  have hb4 : (pz (s.hl.getD k default).1).length ≤ 17179869184 := by omega
  have hlt : ((s.hl.take k).map fun x => CB x.1).length = k := by simp; omega
  obtain ⟨u, us, HI⟩ := (H8).Z9
  refine ah (gB (bW (l := [_, _]) HI zeroValue84 rfl) ?_)
  rintro _ w9 ⟨b9, rfl, H9⟩
  refine aI (bC 0 (l' := [_, _]) (us := [_, _]) H9 sizeOf84 rfl rfl rfl (aC (by first | rfl | assumption) (aC (by first | rfl | assumption) bg)) rfl rfl) ?_
  rintro _ w10 qK
  refine aB ?_
  refine Ia (qK.g5) ?_
  intro G11 IV vK
  try simp only [bF] at vK
  refine aY ?_
  have VR := vK.drew
  have Iy := aA.kp (VR.f4.f4.f4.f4)
  refine vJ [0, 2] Iy rfl (gG 0 rfl Iy (fun W hW => iF underlying22 rfl ((Kp.h hW).f2).get.2 rfl) (dU 1 rfl Iy 0 underlying84 rfl sizeOf9 rfl (gG 2 rfl Iy (fun W hW => iF underlying9 rfl ((Kp.h hW)).get.2 rfl) (jm 3 rfl (qx VR underlying9 underlying104 underlying5 rfl (by omega)) ?_))))
  rintro l12 w12 vM
  have zN := aA.kp (vM.f5.f5.f5.f5.f5)
  refine bU zN (fun W hW => (Kp.h hW).right.f4.f4.f4.f4) ?_
  refine jm 4 rfl (rX rfl func51 (vw vM (by assumption) (fun W HW => (HW).jH) (by assumption) (by omega))) ?_
  rintro u13 OY xq
  have Xm := xq.jE
  have JG := aA.kp (Xm.f6.f6.f6.f6.f6.f6)
  refine bU JG (fun W hW => (Kp.h hW).right.f5.f5.f5.f5.f5) ?_
  refine jm 5 rfl (jv (vs := [_]) Xm underlying22 sizeOf23 zeroValue23 rfl rfl rfl (by decide) (aC (by first | rfl | exact Rd.one ((Xm).jH)) bg)) ?_
  rintro l15 QV xu
  have wR := aA.kp (xu.f7.f7.f7.f7.f7.f7.f7)
  refine bU wR (fun W hW => (Kp.h hW).right.f6.f6.f6.f6.f6.f6) ?_
  refine jm 6 rfl (fK xu.f6 underlying22 (show (prog.info? 23).map (fun i => (i.zero, i.size, i.bytes)) = some (some (.slice none 0 0), 1, 24) by kernel_rfl) rfl rfl rfl ((xu).aJ) (aC (by first | rfl | exact Rd.one ((xu.f2).jH)) bg) (by omega) (by omega)) ?_
  rintro ZK w16 sW
  have Hz := sW.f2.right
  have yD := aA.kp (Hz.f6.f6.f6.f6.f6.f6)
  refine dS yD (by kernel_rfl) ?_
  refine dO 7 rfl (by kernel_rfl) (aS 0 (l' := [_]) Hz.f5 sizeOf22 rfl rfl (by first | rfl | exact Rd.one ((Hz).aJ)) rfl rfl) ?_
  rintro _ TR Au
  have zO := aA.kp (Au.f6.f6.f6.f6.f6.f6)
  refine dS zO (by kernel_rfl) ?_
  refine mD (aH ?_)
  refine yS ?_
  rw [FM _ _ hkh]
  exact (aA.Ir (by simp) (aA.F8 Au.f4.right.f4.right.f2.f2.f3.f4).f3.f3).deep
 ·rintro D19 TS xX
  have Zk := xX.ed
  try simp only [bF, ji, nO] at Zk
  have Zl := Zk.I7
  subst hR7
  rw [List.take_of_length_le (Nat.le_refl _)] at Zl
  obtain ⟨u, us, HI⟩ := (Zl.f4).Z9
  have hl0 : (s.hl.map fun x => CB x.1).length = s.hl.length := by simp
  refine aH (aj (ay (ah (dA underlying22 rfl (HI).get.2 rfl (gB (jv (vs := [_]) HI underlying22 sizeOf23 zeroValue23 rfl rfl rfl (by decide) (aC (by first | rfl | assumption) bg)) ?_)))))
  rintro YJ QW zh
  refine gB (fK zh.f3 underlying22 (show (prog.info? 23).map (fun i => (i.zero, i.size, i.bytes)) = some (some (.slice none 0 0), 1, 24) by kernel_rfl) rfl rfl rfl ((zh).aJ) (aC (by first | rfl | assumption) bg) (by omega) (by omega)) ?_
  rintro l21 TT oW
  have Dc := oW.f2.right
  refine aI (aS 0 (l' := [_]) Dc.f2 sizeOf22 rfl rfl (by first | rfl | exact Rd.one ((Dc).aJ)) rfl rfl) ?_
  rintro _ Qh vN
  refine aB (aj (ay ?_))
  have WM := vN.f3
  have WO := ((WM).KL.swap).F8
  have WR := WO.f3.f3
  have WS := aA.Ir (ls := s.uy) (by rw [s.wJ, hl0]) WR
  refine ah (aP rfl (dD rfl func16 (oD WS.f5) ?_))
  rintro _ Ye ⟨u28, abB, abC, Zm, rfl, LU⟩
  obtain ⟨bus, rfl⟩ : ∃ q, q = abC := ⟨_, rfl⟩
  refine gB (bW (l := [_, _, _, _, _, _, _, _, _, _, _, _, _, _, _, _, _]) LU zeroValue44 rfl) ?_
  rintro _ ZI ⟨b29, rfl, O4⟩
  refine aI (bC 0 (l' := [_, _, _, _, _, _, _, _, _, _, _, _, _, _, _, _, _]) (us := [_, _, _, _, _, _, _, _, _, _, _, _, _, _, _, _, _]) O4 sizeOf44 rfl rfl rfl (aC (by first | rfl | exact Rd.one ((O4.f2).aJ)) (aC (by first | rfl | assumption) (aC (by first | rfl | assumption) (aC (by first | rfl | assumption) (aC (by first | rfl | assumption) (aC (by first | rfl | assumption) (aC (by first | rfl | assumption) (aC (by first | rfl | assumption) (aC (by first | rfl | assumption) (aC (by first | rfl | assumption) (aC (by first | rfl | assumption) (aC (by first | rfl | exact Rd.one ((O4.f3).aJ)) (aC (by first | rfl | assumption) (aC (by first | rfl | exact Rd.one ((O4.f5).aJ)) (aC (by first | rfl | assumption) (aC (by first | rfl | assumption) (aC (by first | rfl | assumption) bg))))))))))))))))) rfl rfl) ?_
  rintro _ Yf Hf
  refine aB (aj (ay (ay (ah (bf 13 underlying44 rfl sizeOf42 rfl (dA underlying42 rfl (Hf).get.2 rfl (aU (eY ((Hf.f5).aJ) underlying42 rfl) (aP rfl (aB (aj (aY ?_)))))))))))
  refine eP [(4, _), (7, _), (31, _), (32, _)] (fun (j : Nat) => [(33, .int .i64 (j : Int))]) (fun (j : Nat) W => j ≤ s.saved.length ∧ aA w0 W (Marks [D19] • Oj b2 ((s.saved.take j).foldl setAt s.uy) • cO b29 (.cells (ES s u28 abB Zm).toArray 44 (0, 0)) • gW 21 .i32 u28 s.c.L • Row 106 2 Zm s.saved.length (s.saved.flatMap lC) • dN e s • F)) (fun (j : Nat) => s.saved.length - j) (0) (Sub.cons rfl (Sub.cons rfl (Sub.cons rfl (Sub.cons rfl (Sub.nil _))))) (Sub.cons rfl (Sub.nil _)) ⟨by omega, Hf.f3.right.f3.right.f7.right.f7.right.f4.f4.f4.f4.f5.f6⟩ ?_
  rintro j XD ⟨hj, HJ⟩
  dsimp only [List.cons_append, List.nil_append]
  refine ay (ah (aU (dV rfl rfl) (aB (aj (ay (aO rfl (fun h1 => ?_) (fun h1 => ?_)))))))
  ·(try simp only [aG] at h1)
   refine aQ (aj (ay (aY (ay ?_))))
   have hjl : j < s.saved.length := by omega
   obtain ⟨hx1, hx2⟩ := CG (show s.saved.getD j default ∈ s.saved from by rw [List.getD_eq_getElem?_getD, List.getElem?_eq_getElem hjl]; exact List.getElem_mem hjl)
   have hxs : (s.saved.getD j default).2.size ≤ 16384 := by rw [hx2]; exact mX hlk.2.2.2.2.2 hok.2.2 _
   have hc2 := vC (s.saved.getD j default).2
   have hc3 := jZ (s.saved.getD j default).2
   have hc4 : (pz (s.saved.getD j default).2).length ≤ 17179869184 := by omega
   have hfl : ((s.saved.take j).foldl setAt s.uy).length = s.hl.length + 1 := by rw [qG, s.wJ]
   obtain ⟨u2, us2, HI2⟩ := (HJ.f2).Z9
   refine ah ?_
   obtain ⟨acn, aco, acp, Zn⟩ := Rd.kN ((HI2.f7).aJ) (by omega)
   cases Zn
   refine aU (bV underlying42 sizeOf106 rfl rfl (by omega)) (aU (iG (ys := [_, _]) ((HI2.f7).aJ) (by omega) underlying106 rfl sizeOf106 rfl (jw PI (by omega) default) rfl) (gB (bW (l := [_, _]) HI2 zeroValue106 rfl) ?_))
   rintro _ w32 ⟨b32, rfl, CW⟩
   refine aI (bC 0 (l' := [_, _]) (us := [_, _]) CW sizeOf106 rfl rfl rfl (aC (by first | rfl | assumption) (aC (by first | rfl | assumption) bg)) rfl rfl) ?_
   rintro _ ZJ LV
   refine aB (aj ?_)
   have Tv := LV.drew
   have yg := aA.kp (Tv.f9.f9.f9.f9.f9.f9.f9.f9.f9)
   refine vJ [0, 2, 4] yg rfl (gG 0 rfl yg (fun W hW => iF underlying22 rfl ((Kp.h hW).f2).get.2 rfl) (dU 1 rfl yg 0 underlying106 rfl sizeOf3 rfl (gG 2 rfl yg (fun W hW => iF underlying3 rfl ((Kp.h hW)).get.2 rfl) (dU 3 rfl yg 1 underlying106 rfl sizeOf9 rfl (gG 4 rfl yg (fun W hW => iF underlying9 rfl ((Kp.h hW)).get.2 rfl) (jm 5 rfl (qx Tv underlying9 underlying104 underlying5 rfl (by omega)) ?_))))))
   rintro l34 ZQ N7
   have BU := aA.kp (N7.f10.f10.f10.f10.f10.f10.f10.f10.f10.f10)
   refine bU BU (fun W hW => (Kp.h hW).right.f9.f9.f9.f9.f9.f9.f9.f9.f9) ?_
   refine jm 6 rfl (rX rfl func51 (vw N7 (by assumption) (fun W HW => (HW).jH) (by assumption) (by omega))) ?_
   rintro u35 w35 UO
   have Vb := UO.jE
   have Oi := aA.kp (Vb.f11.f11.f11.f11.f11.f11.f11.f11.f11.f11.f11)
   refine bU Oi (fun W hW => (Kp.h hW).right.f10.f10.f10.f10.f10.f10.f10.f10.f10.f10) ?_
   obtain ⟨bu2, ou2, cu2, eu2⟩ := Rd.kN ((Vb.f5).aJ) (by omega)
   cases eu2
   refine gZ 7 rfl Oi (fun _ => bV underlying22 sizeOf23 rfl rfl (by omega)) ?_
   refine dO 8 rfl (by kernel_rfl) (zD 0 Vb.f5 sizeOf23 rfl rfl (by first | rfl | exact Rd.one ((Vb).jH)) (by omega) (by decide)) ?_
   rintro _ w37 VG
   have Tf := aA.kp (VG.f11.f11.f11.f11.f11.f11.f11.f11.f11.f11.f11)
   refine dS Tf (by kernel_rfl) ?_
   simp only [Nat.mul_one, Nat.add_zero] at VG
   have abD := VG.f5.f6.f4
   have abE := aA.Ir (ls := setAt ((s.saved.take j).foldl setAt s.uy) (s.saved.getD j default)) (by rw [Gz]) ((aA.KJ abD (s.saved.getD j default).1.toNat).f3.f3)
   refine mD (aH (aj (ah (aU (dR rfl rfl (by omega)) (aP rfl (aB ?_))))))
   refine bZ (j + 1) ?_ ?_ ?_ ?_
   ·exact (Sub.cons rfl (Sub.nil _))
   ·exact (Sub.cons rfl (Sub.cons rfl (Sub.cons rfl (Sub.cons rfl (Sub.nil _)))))
   ·(try dsimp only)
    first | done | exact ⟨by omega, by rw [KI _ _ _ default hjl]; exact abE.f2.right.f2.right.f6.f6.f6.f6.f5.f6⟩
   ·(try dsimp only); omega
  ·(try simp only [aG] at h1)
   refine dK (aV (aV (bD (aj (ay ?_)))))
   obtain rfl : j = s.saved.length := by omega
   rw [List.take_of_length_le (Nat.le_refl _)] at HJ
   have hfl : (s.saved.foldl setAt s.uy).length = s.hl.length + 1 := by rw [qG, s.wJ]
   obtain ⟨u3, us3, HI3⟩ := (HJ.f2).Z9
   have Xd := HI3.f6
   have Kq := aA.jE Xd
   refine ah (dA underlying22 rfl (Kq.f2).get.2 rfl (bf 12 underlying44 rfl sizeOf3 rfl (dA underlying3 rfl (Kq.f6).get.2 rfl (bf 0 underlying44 rfl sizeOf41 rfl (bf 0 underlying41 rfl sizeOf23 rfl (dA underlying23 rfl (Kq.f6).get.2 rfl ?_))))))
   obtain ⟨bu3, ou3, cu3, X7⟩ := Rd.kN ((Kq.f3).aJ) (by omega)
   cases X7
   refine aU (bV underlying22 sizeOf23 rfl rfl (by omega)) (aI (zD 0 Kq.f3 sizeOf23 rfl rfl (by first | rfl | exact Rd.one ((Kq).jH)) (by omega) (by decide)) ?_)
   rintro _ w42 TU
   refine aB (aj (ay (ah (dA underlying22 rfl (TU.f3).get.2 rfl (aW rfl (aB (aj (aN ?_))))))))
   refine zu (.inl rfl) (TU.f5) (fun ZT TV => ?_)
   refine ⟨_, TY results13 rfl, ?_⟩
   simp only [Nat.mul_one, Nat.add_zero, ES, List.getElem_toArray, List.getElem_cons_zero] at TV
   have X := aA.KJ TV.f3.right.f4.right.f4.right.f4.f2.f4.f4 s.c.place.toNat
   exact ⟨_, by rw [show s.lines.length = (s.saved.foldl setAt s.uy).length from by rw [s.Bv, hfl]]; exact X.swap⟩
 ·rintro D w H; exact absurd H.swap.fact.1 id
 ·rintro id D w H; exact absurd H.swap.fact.1 fun h => h
end
end Go.Proofs.YtddekefihgejoaaGreatDoor
end
section
namespace Go.Proofs.YtddekefihgejoaaGreatDoor
open Go.RowKit
structure Ol where
  pat : List Int
  back : Bool
  failed : Bool
  place : Int
  at_ : Int
deriving Inhabited
structure SS where
  L : List (List Int)
  last : List Int
  now : Ol
  was : List Ol
def wK (pv : Value) (t : Ol) (n : Nat) : List Value := [pv, .bool t.back, .bool t.failed, .int .i64 t.place, .int .i64 t.at_, .int .i64 (n : Int)]
def yh (lv Iz pv uv : Value) (t : Ol) (n : Nat) : List Value := [lv, Iz, pv, .bool t.back, .bool t.failed, .int .i64 t.place, .int .i64 t.at_, .int .i64 (n : Int), uv]
def Om (I : Hp) (p n : Nat) (v : Value) (t : Ol) : Prop := ∃ (old box : Nat) (pv : Value), v = .func (.func 119) #[] #[.pointer (some ⟨old, 0, none⟩), .pointer (some ⟨box, 0, none⟩)] ∧
  I old = some (.cells (wK pv t n).toArray 52 (0, 0)) ∧ I box = some (.cells #[.pointer (some ⟨p, 0, none⟩)] 46 (0, 0)) ∧ yj I .i32 pv t.pat
def Xn (I : Hp) (p n : Nat) (vs : List Value) (ts : List Ol) : Prop := vs.length = ts.length ∧ ∀ j, j < ts.length → Om I p n (vs.getD j undef) (ts.getD j default)
theorem Om.mono {I I' : Hp} {p n : Nat} {v : Value} {t : Ol} (hl : Hp.le I I') (h : Om I p n v t) : Om I' p n v t := by
  obtain ⟨old, box, pv, h1, h2, h3, h4⟩ := h
  exact ⟨old, box, pv, h1, hl _ _ h2, hl _ _ h3, h4.mono hl⟩
def qH (p n : Nat) (vs : List Value) (ts : List Ol) : HP := know (fun I => Xn I p n vs ts) fun _ _ hl h => ⟨h.1, fun j hj => (h.2 j hj).mono hl⟩
def yu (S : SS) : Prop := (0 < S.L.length ∧ S.L.length ≤ 4097 ∧ ∀ k, k < S.L.length → (S.L.getD k []).length ≤ 16384) ∧ S.now.pat.length ≤ 1024 ∧ (0 ≤ S.now.place ∧ S.now.place < S.L.length) ∧ S.was.length ≤ 35184372087808 ∧ ∀ t ∈ S.was, t.pat.length ≤ 1024 ∧ 0 ≤ t.place ∧ t.place < S.L.length
def dZ (p : Nat) (S : SS) : HP := qC fun (x : Value × Value × Value × Value × List Value × List Value) => fact (yu S) • cO p (.cells (yh x.1 x.2.1 x.2.2.1 x.2.2.2.1 S.now S.L.length).toArray 75 (0, 0)) •
  Row 23 1 x.1 S.L.length x.2.2.2.2.1 • sH .i32 x.2.2.2.2.1 S.L • nY .i32 x.2.1 S.last • nY .i32 x.2.2.1 S.now.pat • Row 1 1 x.2.2.2.1 S.was.length x.2.2.2.2.2 • qH p S.L.length x.2.2.2.2.2 S.was
section
variable {w0 w : World} {F : HP} {p n : Nat} {S : SS} {lv Iz pv uv : Value} {us ws : List Value}
theorem aA.grp {A : HP} (H : aA w0 w (A • F)) : ∃ K, A = K ∧ aA w0 w (K • F) := ⟨A, rfl, H⟩
theorem aA.Zo {b : Nat} {o : Obj} (H : aA w0 w (Qg b o • F)) : w.heap[b]? = some o := let ⟨I, h, hI⟩ := H.qU; (hI _ _ h).2
theorem aA.Tz {k : IntKind} {v : Value} {l : List Int} (H : aA w0 w (nY k v l • F)) : aA w0 w (nY k v l • nY k v l • F) := H.zn
theorem aA.search (H : aA w0 w (dZ p S • F)) : ∃ lv Iz pv uv us ws, yu S ∧ aA w0 w (cO p (.cells (yh lv Iz pv uv S.now S.L.length).toArray 75 (0, 0)) • Row 23 1 lv S.L.length us • sH .i32 us S.L • nY .i32 Iz S.last • nY .i32 pv S.now.pat •
    Row 1 1 uv S.was.length ws • qH p S.L.length ws S.was • F) := by
  obtain ⟨⟨lv, Iz, pv, uv, us, ws⟩, H⟩ := H.kU
  obtain ⟨h, H⟩ := H.flat.fact
  exact ⟨lv, Iz, pv, uv, us, ws, h, H.of_eq (by simp only [bF])⟩
theorem aA.jf (h : yu S) (H : aA w0 w (cO p (.cells (yh lv Iz pv uv S.now S.L.length).toArray 75 (0, 0)) • Row 23 1 lv S.L.length us • sH .i32 us S.L • nY .i32 Iz S.last • nY .i32 pv S.now.pat • Row 1 1 uv S.was.length ws • qH p S.L.length ws S.was • F)) :
    aA w0 w (dZ p S • F) := aA.gY (lv, Iz, pv, uv, us, ws) (aA.deep (aA.jU h (H.of_eq (by simp only [bF]))))
theorem aA.Nb {k : Nat} (h : yu S) (hk : k = S.was.length) (H : aA w0 w (cO p (.cells (yh lv Iz pv uv S.now S.L.length).toArray 75 (0, 0)) • Row 23 1 lv S.L.length us • sH .i32 us S.L • nY .i32 Iz S.last • nY .i32 pv S.now.pat • Row 1 1 uv k ws • qH p S.L.length ws S.was • F)) :
    aA w0 w (dZ p S • F) := by subst hk; exact aA.jf h H
theorem PZ (H : aA w0 w F) : aA w0 w (qH p n [] [] • F) := H.xR fun I => ⟨rfl, fun j hj => by simp at hj⟩
theorem Nc {vs : List Value} {ts : List Ol} {old box : Nat} {t : Ol} (H : aA w0 w (qH p n vs ts • Qg old (.cells (wK pv t n).toArray 52 (0, 0)) • Qg box (.cells #[.pointer (some ⟨p, 0, none⟩)] 46 (0, 0)) • nY .i32 pv t.pat • F)) :
    aA w0 w (qH p n (vs ++ [.func (.func 119) #[] #[.pointer (some ⟨old, 0, none⟩), .pointer (some ⟨box, 0, none⟩)]]) (ts ++ [t]) • F) := by
  refine H.Dh fun I x ha => ?_
  have h1 := (gJ _ _ _ I x).1 ha
  have h2 := (gJ _ _ _ I x).1 h1.2
  have h3 := (gJ _ _ _ I x).1 h2.2
  have h4 := (gJ _ _ _ I x).1 h3.2
  refine (gJ _ _ F I x).2 ⟨⟨by simp [h1.1.1], fun j hj => ?_⟩, h4.2⟩
  have hl := h1.1.1
  rw [List.length_append, List.length_singleton] at hj
  by_cases e : j < ts.length
  · rw [kJ (by omega), kJ e]; exact h1.1.2 j e
  · rw [jR (by omega), jR (by omega), show j - vs.length = 0 from by omega, show j - ts.length = 0 from by omega]
    exact ⟨old, box, pv, rfl, h2.1, h3.1, h4.1⟩
theorem Nh {vs : List Value} {ts : List Ol} {j : Nat} (H : aA w0 w (qH p n vs ts • F)) (hj : j < ts.length) : ∃ old box pv, vs.getD j undef = .func (.func 119) #[] #[.pointer (some ⟨old, 0, none⟩), .pointer (some ⟨box, 0, none⟩)] ∧
    aA w0 w (Qg old (.cells (wK pv (ts.getD j default) n).toArray 52 (0, 0)) • Qg box (.cells #[.pointer (some ⟨p, 0, none⟩)] 46 (0, 0)) • nY .i32 pv (ts.getD j default).pat • qH p n vs ts • F) := by
  have H1 : aA w0 w ((qC fun (x : Nat × Nat × Value) => fact (vs.getD j undef = .func (.func 119) #[] #[.pointer (some ⟨x.1, 0, none⟩), .pointer (some ⟨x.2.1, 0, none⟩)]) •
      Qg x.1 (.cells (wK x.2.2 (ts.getD j default) n).toArray 52 (0, 0)) • Qg x.2.1 (.cells #[.pointer (some ⟨p, 0, none⟩)] 46 (0, 0)) • nY .i32 x.2.2 (ts.getD j default).pat) • qH p n vs ts • F) := H.Dh fun I x ha => by
    have hk := ((gJ _ _ F I x).1 ha).1
    obtain ⟨old, box, pv, g1, g2, g3, g4⟩ := hk.2 j hj
    rw [Lh]
    refine ⟨(old, box, pv), ?_⟩
    simp only [bF]
    exact (uz _ _ I x).2 ⟨g1, (gJ _ _ _ I x).2 ⟨g2, (gJ _ _ _ I x).2 ⟨g3, (gJ _ _ _ I x).2 ⟨g4, ha⟩⟩⟩⟩
  obtain ⟨⟨old, box, pv⟩, H2⟩ := H1.kU
  obtain ⟨h1, H3⟩ := H2.flat.fact
  exact ⟨old, box, pv, h1, H3.of_eq (by simp only [bF])⟩
end
end Go.Proofs.YtddekefihgejoaaGreatDoor
end
section
namespace Go.Proofs.YtddekefihgejoaaGreatDoor
open Go.RowKit
open _root_.Go.Proofs.Tryz
namespace SS
def start (L : List (List Int)) (last : List Int) (back : Bool) (place at_ : Int) : SS := ⟨L, last, ⟨[], back, false, place, at_⟩, []⟩
def found (S : SS) (at_ : Int) : Int × Int × Bool := oG S.L S.now.place at_ S.now.pat S.now.back
def EW (S : SS) (at_ : Int) : Int := if (S.found at_).2.2 then 0 else 6
def qR (S : SS) (at_ : Int) : SS := if (S.found at_).2.2 then { S with now := { S.now with failed := false, place := (S.found at_).1, at_ := (S.found at_).2.1 } } else { S with now := { S.now with failed := true } }
def keep (S : SS) : SS := { S with was := S.was ++ [S.now] }
def more (S : SS) (l : List Int) : SS := { S.keep with now := { S.now with pat := S.now.pat ++ l } }
def lU (S : SS) (l : List Int) : Int := if 1024 < S.now.pat.length + l.length then 3 else if l.length = 0 then 0 else (S.more l).EW S.now.at_
def lT (S : SS) (l : List Int) : SS := if 1024 < S.now.pat.length + l.length then S else if l.length = 0 then S else (S.more l).qR S.now.at_
def KN (S : SS) : Int := if S.was.length = 0 then 6 else 0
def xK (S : SS) : SS := if S.was.length = 0 then S else { S with now := S.was.getD (S.was.length - 1) default, was := S.was.take (S.was.length - 1) }
end SS
section
variable {w0 w : World} {F : HP} {p n e : Nat} {S : SS} {s : bH} {v lv Iz pv uv : Value} {us ws : List Value} {l : List Int} {back : Bool} {at_ : Int}
theorem qy (H : aA w0 w (dZ p S • F)) : fQ prog 60 #[.pointer (some ⟨p, 0, none⟩)] w fun v w' => v = .bool false ∧ w = w' := by
 refine iw func60 ntmps60 ?_
 dsimp only [aZ, Nat.reduceAdd]
 refine ay (ah (aW rfl (aB (aj (ay ?_)))))
 obtain ⟨IB, Ag, IC, IE, IG, II, oH, ku⟩ := (H).search
 obtain ⟨Zp, Zq, Zr, TA⟩ := Rd.kN ((ku.f2).aJ) (by have h9 := oH.1.1; omega)
 cases TA
 refine ah (aP rfl (aU (fO underlying46 rfl rfl) (jL rfl (fun h1 => ?_) (fun h1 => ?_))))
 ·(try simp only [aG] at h1)
  try (exfalso; first | contradiction | omega)
  all_goals
   refine bK (bK (bK (bK (bK (jP rfl rfl (aW rfl (aB (aj (aN (aT (.inl rfl) results60 rfl ?_))))))))))
   exact ⟨rfl, rfl⟩
 ·(try simp only [aG] at h1)
  try (exfalso; first | contradiction | omega)
  all_goals
   refine bn (aP rfl (bn (bT rfl (bn (bf 0 underlying75 rfl sizeOf22 rfl (bn (dA underlying22 rfl (ku).get.2 rfl (bn (aU (pV underlying22 rfl rfl) (jd rfl rfl (aW rfl (aB (aj (aN (aT (.inl rfl) results60 rfl ?_)))))))))))))))
   exact ⟨rfl, rfl⟩
theorem P5 (hlen : s.hl.length ≤ 4096) (hp : 0 ≤ s.c.place ∧ s.c.place ≤ s.hl.length) (hL : ∀ k, k < s.lines.length → (s.lines.getD k []).length ≤ 16384) : yu (.start s.lines l back s.c.place at_) := by
  have := s.Bv
  exact ⟨⟨by show 0 < s.lines.length; omega, by show s.lines.length ≤ 4097; omega, hL⟩, by show 0 ≤ 1024; omega, by show 0 ≤ s.c.place ∧ s.c.place < s.lines.length; omega, by show 0 ≤ _; omega, fun t ht => by cases ht⟩
theorem KO {s : bH} (h1 : ∀ x ∈ s.hl, x.1.size ≤ 16384) (h2 : ∀ x ∈ s.saved, x.2.size ≤ 16384) (h3 : s.c.L.length ≤ 16384) : ∀ k, k < s.lines.length → (s.lines.getD k []).length ≤ 16384 := by
  have ht : ∀ b : ByteArray, b.size ≤ 16384 → (CB b).length ≤ 16384 := fun b hb => by have := LJ (pz b); rw [jZ] at this; unfold CB; omega
  have key : ∀ (xs : List (Int × ByteArray)) (l : List (List Int)), (∀ x ∈ xs, x.2.size ≤ 16384) → (∀ x ∈ l, x.length ≤ 16384) → ∀ x ∈ xs.foldl setAt l, x.length ≤ 16384 := by
    intro xs
    induction xs with
    | nil => intro l _ h; exact h
    | cons y xs ih =>
      intro l hx hl
      rw [List.foldl_cons]
      refine ih _ (fun x h => hx x (List.mem_cons_of_mem _ h)) fun x h => ?_
      rcases List.mem_or_eq_of_mem_set h with h | rfl
      · exact hl x h
      · exact ht _ (hx y (List.mem_cons_self ..))
  have all : ∀ x ∈ s.lines, x.length ≤ 16384 := fun x h => by
    unfold bH.lines at h
    rcases List.mem_or_eq_of_mem_set h with h | rfl
    · refine key _ _ h2 (fun x h => ?_) x h
      unfold bH.uy at h
      rcases List.mem_append.1 h with h | h
      · obtain ⟨y, hy, rfl⟩ := List.mem_map.1 h; exact ht _ (h1 y hy)
      · obtain rfl := List.mem_singleton.1 h; simp
    · exact h3
  intro k hk
  rw [List.getD_eq_getElem?_getD, List.getElem?_eq_getElem hk]
  exact all _ (List.getElem_mem hk)
theorem EX (H : aA w0 w (dN e s • F)) (hr : gV w0 F .i32 v l) (hl : l.length ≤ 35184372087808) (hT : tu w0) : fQ prog 17 #[.pointer (some ⟨e, 0, none⟩), .bool back, v] w fun v' w' => ∃ p, v' = .tuple #[.pointer (some ⟨p, 0, none⟩), .int .i64 0] ∧
  aA w0 w' (dZ p (.start s.lines l back s.c.place s.c.pt) • dN e s • F) := by
 obtain ⟨hok, hlk, hsL⟩ : Bg s.hl s.c ∧ Wi s.hl s.base s.most ∧ s.c.L.length ≤ 1024 := by
  obtain ⟨qZ, ru, rC, rD, rE, rF, rG, rH, oL, mZ, ng, ni, ny, nC, nD, nG, nH, nI, nJ, nK, dL, bM, iC, eU⟩ := (H).Ey
  obtain ⟨hv9, hk9, _⟩ := (eU.f7).hist
  have hL : s.c.L.length ≤ 1024 := by obtain ⟨a, c, xs, f, t, h1, h2, h3, h4, h5, h6, h7, hc1, hc2, hl, H1⟩ := (eU.f2).buf; exact h4
  exact ⟨dL.1, hk9, hL⟩
 have hlen := s.Bv
 have hsh := KO (s := s) (fun x hx => (hlk.2.2.2.2.2 x hx).1) (fun x hx => by rw [(CG hx).2]; exact mX hlk.2.2.2.2.2 hok.2.2 _) (by omega)
 have hln := hlk.1
 refine iw func17 ntmps17 ?_
 dsimp only [aZ, Nat.reduceAdd]
 refine ay (ah (aW rfl (aW rfl (aB (aj (ay (ah (aP rfl (dD rfl func13 (Iw H (by assumption)) ?_)))))))))
 rintro u1 w1 ⟨us1, H1⟩
 obtain ⟨lus, rfl⟩ : ∃ q, q = us1 := ⟨_, rfl⟩
 obtain ⟨bu1, ou1, cu1, eu1⟩ := Rd.kN ((H1).aJ) (by omega)
 cases eu1
 refine aW rfl (aB (aj (ay (ay (ah (aP rfl (aU (pV underlying22 rfl rfl) (aB (aj (pW (aQ (aj (ay (ah (aP rfl (dD rfl func16 (oD H1.f3) ?_))))))))))))))))
 rintro _ w2 ⟨u2, ks2, us2, sv2, rfl, H2⟩
 obtain ⟨bus, rfl⟩ : ∃ q, q = us2 := ⟨_, rfl⟩
 refine gB (bW (l := [_, _, _, _, _, _, _, _, _, _, _, _, _, _, _, _, _]) H2 zeroValue44 rfl) ?_
 rintro _ w3 ⟨b3, rfl, H3⟩
 refine aI (bC 0 (l' := [_, _, _, _, _, _, _, _, _, _, _, _, _, _, _, _, _]) (us := [_, _, _, _, _, _, _, _, _, _, _, _, _, _, _, _, _]) H3 sizeOf44 rfl rfl rfl (aC (by first | rfl | exact Rd.one ((H3.f2).aJ)) (aC (by first | rfl | assumption) (aC (by first | rfl | assumption) (aC (by first | rfl | assumption) (aC (by first | rfl | assumption) (aC (by first | rfl | assumption) (aC (by first | rfl | assumption) (aC (by first | rfl | assumption) (aC (by first | rfl | assumption) (aC (by first | rfl | assumption) (aC (by first | rfl | assumption) (aC (by first | rfl | exact Rd.one ((H3.f3).aJ)) (aC (by first | rfl | assumption) (aC (by first | rfl | exact Rd.one ((H3.f5).aJ)) (aC (by first | rfl | assumption) (aC (by first | rfl | assumption) (aC (by first | rfl | assumption) bg))))))))))))))))) rfl rfl) ?_
 rintro _ w4 H4
 refine aB (aj (ay ?_))
 have S9 := H4.drew
 have jo := aA.kp (S9.f8.f8.f8.f8.f8.f8.f8.f8)
 refine vJ [5, 8] jo rfl (fU 0 rfl jo rfl (fU 1 rfl jo rfl (fU 3 rfl jo rfl (dU 4 rfl jo 12 underlying44 rfl sizeOf3 rfl (gG 5 rfl jo (fun W hW => iF underlying3 rfl ((Kp.h hW)).get.2 rfl) (dU 6 rfl jo 0 underlying44 rfl sizeOf41 rfl (dU 7 rfl jo 1 underlying41 rfl sizeOf3 rfl (gG 8 rfl jo (fun W hW => iF underlying3 rfl ((Kp.h hW)).get.2 rfl) (fU 9 rfl jo rfl (gZ 10 rfl jo (fun _ => iU underlying22 rfl) ?_))))))))))
 refine gZ 11 rfl jo (fun _ => dJ (zl := [.slice none 0 0, .bool false, .bool false, .int .i64 0, .int .i64 0, .int .i64 0]) (pl := [(0, 1), (1, 1), (2, 1), (3, 1), (4, 1), (5, 1)]) [_, _, _, _, _, _] underlying52 zeroValue52 rfl (fun w => by kernel_rfl) rfl (.zero (zs := [.slice none 0 0]) rfl (.one (by first | rfl | assumption) (.zero (zs := [.bool false]) rfl (.one (by first | rfl | assumption) (.one (by first | rfl | assumption) (.one (by first | rfl | assumption) .nil)))))) rfl) ?_
 refine jm 2 rfl (rX rfl func59 (kH S9 (fun W HW => hr _ (HW.right.right.right.right.right.right.right.right)) (by omega))) ?_
 rintro u5 w5 H5
 have sN := aA.kp (H5.f9.f9.f9.f9.f9.f9.f9.f9.f9)
 refine bU sN (fun W hW => (Kp.h hW).right.f8.f8.f8.f8.f8.f8.f8.f8) ?_
 refine gZ 12 rfl sN (fun _ => dJ (zl := [.slice none 0 0, .slice none 0 0, .slice none 0 0, .bool false, .bool false, .int .i64 0, .int .i64 0, .int .i64 0, .slice none 0 0]) (pl := [(0, 1), (1, 1), (2, 6), (8, 1)]) [_, _, _, _, _, _, _, _, _] underlying75 zeroValue75 rfl (fun w => by kernel_rfl) rfl (.one (Rd.one ((H5.f8).aJ)) (.one (Rd.one ((H5).aJ)) (.agg (us := [_, _, _, _, _, _]) (zs := [.slice none 0 0, .bool false, .bool false, .int .i64 0, .int .i64 0, .int .i64 0]) rfl rfl (.zero (zs := [.slice none 0 0]) rfl .nil)))) rfl) (jm 13 rfl (ig (l := [_, _, _, _, _, _, _, _, _]) H5 rfl rfl) ?_)
 rintro _ w6 ⟨b6, rfl, H6⟩
 have zY := aA.kp (H6.f10.f10.f10.f10.f10.f10.f10.f10.f10.f10)
 refine dS zY (by kernel_rfl) ?_
 refine gZ 14 rfl zY (fun _ => eX rfl) (gZ 15 rfl zY (fun _ => eX rfl) (mD (aj (aN (gQ (.inl rfl) results17 rfl rfl ?_)))))
 have X := PZ (p := b6) (n := s.lines.length) (aA.iH (e := 1) (sz := 1) (aA.KL (k := .i32) (H6.f3.right.f3.right.f3.right.f3.right.f3.right.f3.f5.f5.f4.f5).jE) none)
 exact ⟨_, rfl, aA.jf (S := .start s.lines l back s.c.place s.c.pt) (P5 hln ⟨hok.1, hok.2.1⟩ hsh) X.f2.f3.f4.f7.f7.f7⟩
end
end Go.Proofs.YtddekefihgejoaaGreatDoor
end
section
namespace Go.Proofs.YtddekefihgejoaaGreatDoor
open Go.RowKit
open _root_.Go.Proofs.Tryz
theorem Oo {S : SS} (h : yu S) (hw : S.was.length ≤ 1099511627776) : yu S.keep := by
  obtain ⟨h1, h2, h3, h4, h5⟩ := h
  refine ⟨h1, h2, h3, by show (S.was ++ [S.now]).length ≤ _; simp; omega, fun t ht => ?_⟩
  rcases List.mem_append.1 ht with h | h
  · exact h5 t h
  · obtain rfl := List.mem_singleton.1 h; exact ⟨h2, h3⟩
section
variable {w0 w : World} {F : HP} {p n e : Nat} {S : SS} {v lv Iz pv uv : Value} {us ws : List Value} {l : List Int} {back : Bool} {at_ : Int}
theorem KP (H : aA w0 w (dZ p S • F)) (hw : S.was.length ≤ 1099511627776) : fQ prog 61 #[.pointer (some ⟨p, 0, none⟩)] w fun v w' => aA w0 w' (dZ p S.keep • F) := by
 refine iw func61 ntmps61 ?_
 dsimp only [aZ, Nat.reduceAdd]
 refine ay (ah (gB (ig (l := [_]) H rfl rfl) ?_))
 rintro _ w1 ⟨b1, rfl, H1⟩
 refine aB (aj (ay ?_))
 obtain ⟨IB, Ag, IC, IE, IG, II, oH, ku⟩ := (H1.f2).search
 refine ah (dA underlying46 rfl (ku.f8).get.2 rfl (bT rfl (bf 2 underlying75 rfl sizeOf52 rfl (aU (kY 2 (xs := [_, _, _, _, _, _]) underlying52 rfl sizeOf52 rfl rfl (ku).get.2 rfl) (gB (bW (l := [_, _, _, _, _, _]) ku zeroValue52 rfl) ?_)))))
 rintro _ w3 ⟨b3, rfl, H3⟩
 refine aI (bC 0 (l' := [_, _, _, _, _, _]) (us := [_, _, _, _, _, _]) H3 sizeOf52 rfl rfl rfl (aC (by first | rfl | exact Rd.one ((H3.f6).jH)) (aC (by first | rfl | assumption) (aC (by first | rfl | assumption) (aC (by first | rfl | assumption) (aC (by first | rfl | assumption) (aC (by first | rfl | assumption) bg)))))) rfl rfl) ?_
 rintro _ w4 H4
 refine aB (aj ?_)
 have Zt := H4.drew
 have EY := aA.kp (Zt.f7.right.f8.f8.f8.f8.f8.f8.f8.f8)
 refine vJ [0, 1, 4] EY rfl (gG 0 rfl EY (fun W hW => iF underlying46 rfl ((Kp.h hW).f8).get.2 rfl) (gG 1 rfl EY (fun W hW => iF underlying46 rfl ((Kp.h hW).f8).get.2 rfl) (iZ 2 rfl EY rfl (dU 3 rfl EY 8 underlying75 rfl sizeOf73 rfl (gG 4 rfl EY (fun W hW => iF underlying73 rfl ((Kp.h hW).f2).get.2 rfl) (gZ 5 rfl EY (fun _ => rV rfl rfl) (jm 6 rfl (jv (vs := [_]) Zt underlying73 sizeOf1 zeroValue1 rfl rfl rfl (by decide) (aC (by first | rfl | assumption) bg)) ?_)))))))
 rintro l5 w5 H5
 have sN := aA.kp (H5.right.f7.right.f8.f8.f8.f8.f8.f8.f8.f8)
 refine bU sN (fun W hW => (Kp.h hW).f8.f8.f8.f8.f8.f8.f8.f8) ?_
 refine jm 7 rfl (fK H5.f8 underlying73 (show (prog.info? 1).map (fun i => (i.zero, i.size, i.bytes)) = some (some (.nilFunc), 1, 8) by kernel_rfl) rfl rfl rfl ((H5).aJ) (aC (by first | rfl | assumption) bg) (by omega) (by omega)) ?_
 rintro l6 w6 H6
 have Rx := H6.f2.right
 have vY := aA.kp (Rx.f9.f9.f9.f9.f9.f9.f9.f9.f9)
 refine bU vY (fun W hW => (Kp.h hW).right.f8.f8.f8.f8.f8.f8.f8.f8) ?_
 refine iZ 8 rfl vY rfl (dU 9 rfl vY 8 underlying75 rfl sizeOf73 rfl ?_)
 refine dO 10 rfl (by kernel_rfl) (aS 8 (l' := [_, _, _, _, _, _, _, _, _]) Rx.f3 sizeOf73 rfl rfl (by first | rfl | exact Rd.one ((Rx).aJ)) rfl rfl) ?_
 rintro _ w8 H8
 have JF := aA.kp (H8.f9.f9.f9.f9.f9.f9.f9.f9.f9)
 refine dS JF (by kernel_rfl) ?_
 refine mD (gq (.inr rfl) results61 ?_)
 have X := ((H8.f2.f6.f6.f6.f5.f8.f8.f9.f9).freeze.swap.freeze.f3).Tz
 have X2 := Nc (t := S.now) X.f3.f4.f5
 exact aA.jf (S := S.keep) (Oo oH hw) (by show aA w0 _ (_ • _ • _ • _ • _ • Row _ _ _ (S.was ++ [S.now]).length _ • _ • F); rw [List.length_append, List.length_singleton]; exact X2.f7.f3.f7.f7.f7.f7)
end
end Go.Proofs.YtddekefihgejoaaGreatDoor
end
section
namespace Go.Proofs.YtddekefihgejoaaGreatDoor
open Go.RowKit
open _root_.Go.Proofs.Tryz
theorem KQ {L : List (List Int)} {place at_ : Int} {pat : List Int} {back : Bool} (h : (oG L place at_ pat back).2.2 = true) : 0 ≤ (oG L place at_ pat back).1 ∧ (oG L place at_ pat back).1 < L.length ∧ 0 ≤ (oG L place at_ pat back).2.1 := by
  have kb : ∀ n, n ≤ L.length → (yK L place at_ pat n).2.2 = true → 0 ≤ (yK L place at_ pat n).1 ∧ (yK L place at_ pat n).1 < L.length ∧ 0 ≤ (yK L place at_ pat n).2.1 := by
    intro n
    induction n with
    | zero => intro _ h; cases h
    | succ n ih =>
      intro hn h
      unfold yK at h ⊢
      split
      · rename_i h1; exact ⟨by show (0 : Int) ≤ (n : Nat); omega, by show ((n : Nat) : Int) < _; omega, h1⟩
      · rename_i h1; rw [if_neg h1] at h; exact ih (by omega) h
  have kf : ∀ n i, i + n ≤ L.length → (findF L place at_ pat n i).2.2 = true → 0 ≤ (findF L place at_ pat n i).1 ∧ (findF L place at_ pat n i).1 < L.length ∧ 0 ≤ (findF L place at_ pat n i).2.1 := by
    intro n
    induction n with
    | zero => intro i _ h; cases h
    | succ n ih =>
      intro i hn h
      unfold findF at h ⊢
      split
      · rename_i h1; exact ⟨by show (0 : Int) ≤ (i : Nat); omega, by show ((i : Nat) : Int) < _; omega, h1⟩
      · rename_i h1; rw [if_neg h1] at h; exact ih _ (by omega) h
  unfold oG at h ⊢
  split
  · rename_i hb; rw [if_pos hb] at h; cases h
  · rename_i hb
    rw [if_neg hb] at h
    split
    · rename_i hk; rw [if_pos hk] at h; exact kb _ (by omega) h
    · rename_i hk; rw [if_neg hk] at h; exact kf _ _ (by omega) h
theorem Oq {S : SS} (h : yu S) (a : Int) : yu (S.qR a) := by
  obtain ⟨h1, h2, h3, h4, h5⟩ := h
  unfold SS.qR
  split
  · rename_i hf
    have := KQ hf
    exact ⟨h1, h2, ⟨this.1, this.2.1⟩, h4, h5⟩
  · exact ⟨h1, h2, h3, h4, h5⟩
section
variable {w0 w : World} {F : HP} {p n e : Nat} {S : SS} {v lv Iz pv uv : Value} {us ws : List Value} {l : List Int} {back : Bool} {at_ : Int}
theorem EZ (S : SS) (a : Int) : (S.qR a).L = S.L ∧ (S.qR a).last = S.last ∧ (S.qR a).was = S.was ∧ (S.qR a).now.pat = S.now.pat ∧ (S.qR a).now.back = S.now.back := by
  unfold SS.qR; split <;> exact ⟨rfl, rfl, rfl, rfl, rfl⟩
theorem IJ (H : aA w0 w (dZ p S • F)) : fQ prog 63 #[.pointer (some ⟨p, 0, none⟩), .int .i64 at_] w fun v w' => v = .int .i64 (S.EW at_) ∧ aA w0 w' (dZ p (S.qR at_) • F) := by
 refine iw func63 ntmps63 ?_
 dsimp only [aZ, Nat.reduceAdd]
 refine ay (ah (aW rfl (aB (aj (ay ?_)))))
 obtain ⟨IB, Ag, IC, IE, IG, II, oH, ku⟩ := (H).search
 have Pe := ku.drew
 have iW := aA.kp (Pe.f7.f7.f7.f7.f7.f7.f7)
 refine vJ [3, 8, 14, 19] iW rfl (fU 0 rfl iW rfl (iZ 1 rfl iW rfl (dU 2 rfl iW 0 underlying75 rfl sizeOf22 rfl (gG 3 rfl iW (fun W hW => iF underlying22 rfl ((Kp.h hW)).get.2 rfl) (fU 4 rfl iW rfl (iZ 5 rfl iW rfl (dU 6 rfl iW 2 underlying75 rfl sizeOf52 rfl (dU 7 rfl iW 3 underlying52 rfl sizeOf3 rfl (gG 8 rfl iW (fun W hW => iF underlying3 rfl ((Kp.h hW)).get.2 rfl) (fU 9 rfl iW rfl (fU 10 rfl iW rfl (iZ 11 rfl iW rfl (dU 12 rfl iW 2 underlying75 rfl sizeOf52 rfl (dU 13 rfl iW 0 underlying52 rfl sizeOf23 rfl (gG 14 rfl iW (fun W hW => iF underlying23 rfl ((Kp.h hW)).get.2 rfl) (fU 15 rfl iW rfl (iZ 16 rfl iW rfl (dU 17 rfl iW 2 underlying75 rfl sizeOf52 rfl (dU 18 rfl iW 1 underlying52 rfl sizeOf4 rfl (gG 19 rfl iW (fun W hW => iF underlying4 rfl ((Kp.h hW)).get.2 rfl) (jm 20 rfl (rX rfl func7 (KF (ls := S.L) (p := S.now.pat) Pe (fun W HW => HW.f2.aJ) (fun k hk W HW => HW.f3.Ny hk) (fun W HW => HW.f5.jH) (by have := oH.1.2.1; omega) (fun k hk => by have := oH.1.2.2 k hk; omega))) ?_)))))))))))))))))))))
 rintro _ w2 ⟨rfl, H2⟩
 have zQ := aA.kp (H2.f7.f7.f7.f7.f7.f7.f7)
 refine dS zQ (by kernel_rfl) ?_
 refine fU 21 rfl zQ rfl (gZ 22 rfl zQ (fun _ => rO rfl rfl) (gZ 23 rfl zQ (fun _ => rO rfl rfl) (gZ 24 rfl zQ (fun _ => rO rfl rfl) (gZ 25 rfl zQ (fun _ => eX rfl) (gZ 26 rfl zQ (fun _ => eX rfl) (gZ 27 rfl zQ (fun _ => eX rfl) (mD (aj (ay ?_)))))))))
 obtain ⟨r, hr⟩ : ∃ r, oG S.L S.now.place at_ S.now.pat S.now.back = r := ⟨_, rfl⟩
 rw [hr]
 refine ah (aP rfl (aP rfl (aU (jT rfl) (bT rfl (bf 2 underlying75 rfl sizeOf52 rfl (bf 2 underlying52 rfl sizeOf4 rfl (aI (aS 4 (l' := [_, _, _, _, _, _, _, _, _]) H2 sizeOf4 rfl rfl (by first | rfl | assumption) rfl rfl) ?_)))))))
 rintro _ w3 H3
 refine aB (aj (ay (ay (ah (aP rfl (aU (jT rfl) (aB (aj (aO rfl (fun h1 => ?_) (fun h1 => ?_))))))))))
 ·(try simp only [aG] at h1)
  have hno : r.2.2 = false := by have h9 := h1; simpa using h9
  refine ay (ah (aW rfl (aB (aj (aN (aK (aT (.inl rfl) results63 rfl ?_)))))))
  have e1 : S.qR at_ = { S with now := { S.now with failed := true } } := by unfold SS.qR SS.found; rw [hr, if_neg (by rw [hno]; decide)]
  have e2 : S.EW at_ = 6 := by unfold SS.EW SS.found; rw [hr, if_neg (by rw [hno]; decide)]
  have X := H3
  rw [hno] at X
  exact ⟨by rw [e2], e1 ▸ aA.jf (S := { S with now := { S.now with failed := true } }) (e1 ▸ Oq oH at_) X⟩
 ·(try simp only [aG] at h1)
  have hyes : r.2.2 = true := by have h9 := h1; simpa using h9
  refine aQ (aj (ay (ah (aP rfl (aP rfl (aP rfl (aP rfl (bT rfl (bf 2 underlying75 rfl sizeOf52 rfl (bf 3 underlying52 rfl sizeOf3 rfl (aI (aS 5 (l' := [_, _, _, _, _, _, _, _, _]) H3 sizeOf3 rfl rfl (by first | rfl | assumption) rfl rfl) ?_)))))))))))
  rintro _ w4 H4
  refine bT rfl (bf 2 underlying75 rfl sizeOf52 rfl (bf 4 underlying52 rfl sizeOf3 rfl (aI (aS 6 (l' := [_, _, _, _, _, _, _, _, _]) H4 sizeOf3 rfl rfl (by first | rfl | assumption) rfl rfl) ?_)))
  rintro _ w5 H5
  refine aB (aj (ay (ah (aW rfl (aB (aj (aN (aT (.inl rfl) results63 rfl ?_))))))))
  have e1 : S.qR at_ = { S with now := { S.now with failed := false, place := r.1, at_ := r.2.1 } } := by unfold SS.qR SS.found; rw [hr, if_pos hyes]
  have e2 : S.EW at_ = 0 := by unfold SS.EW SS.found; rw [hr, if_pos hyes]
  have X := H5
  rw [hyes] at X
  exact ⟨by rw [e2], e1 ▸ aA.jf (S := { S with now := { S.now with failed := false, place := r.1, at_ := r.2.1 } }) (e1 ▸ Oq oH at_) X⟩
theorem TB (h : yu S.keep) : yu S := by
  obtain ⟨h1, h2, h3, h4, h5⟩ := h
  have : (S.was ++ [S.now]).length ≤ 35184372087808 := h4
  rw [List.length_append, List.length_singleton] at this
  exact ⟨h1, h2, h3, by omega, fun t ht => h5 t (List.mem_append_left _ ht)⟩
theorem Vd (h : yu S) (hw : S.was.length ≤ 1099511627776) (hl : S.now.pat.length + l.length ≤ 1024) : yu (S.more l) := by
  obtain ⟨h1, h2, h3, h4, h5⟩ := Oo h hw
  exact ⟨h1, by show (S.now.pat ++ l).length ≤ 1024; rw [List.length_append]; omega, h3, h4, h5⟩
theorem y9 (H : aA w0 w (dZ p S • F)) (hr : gV w0 F .i32 v l) (hl : l.length ≤ 35184372087808) (hw : S.was.length ≤ 1099511627776) : fQ prog 18 #[.pointer (some ⟨p, 0, none⟩), v] w fun v' w' => v' = .int .i64 (S.lU l) ∧ aA w0 w' (dZ p (S.lT l) • F) := by
 unfold SS.lU SS.lT
 refine iw func18 ntmps18 ?_
 dsimp only [aZ, Nat.reduceAdd]
 refine ay (ah (aW rfl (aB (aj (ay (ay (ah (aP rfl (dD rfl func60 (qy H) ?_)))))))))
 rintro _ _ ⟨rfl, rfl⟩
 refine aB (aj (pW (aQ (aj (ay (ay ?_))))))
 obtain ⟨IB, Ag, IC, IE, IG, II, oH, ku⟩ := (H).search
 have hpl := oH.2.1
 refine ah (aP rfl (bT rfl (bf 2 underlying75 rfl sizeOf52 rfl (bf 0 underlying52 rfl sizeOf23 rfl (dA underlying23 rfl (ku).get.2 rfl (aU (gK ((ku.f5).jH) underlying23 rfl) (aP rfl (aU (gK (hr _ (ku.right.right.right.right.right.right.right)) underlying23 rfl) (aU (dR rfl rfl (by omega)) (aU (gU rfl rfl) (aB (aj (aO rfl (fun h1 => ?_) (fun h1 => ?_))))))))))))))
 ·(try simp only [aG] at h1)
  have hbig := h1
  refine ay (ah (aW rfl (aB (aj (aN (aK (aT (.inl rfl) results18 rfl ?_)))))))
  have Js := ku.f7.f7.f7.f7.f7.f7.f7
  have Jt := aA.jf oH Js
  exact ⟨by rw [if_pos (by omega)], by rw [if_pos (by omega)]; exact Jt⟩
 ·(try simp only [aG] at h1)
  have hsm : ¬ 1024 < S.now.pat.length + l.length := by have h9 := h1; omega
  have Ru := ku.f7.f7.f7.f7.f7.f7.f7
  have Pj := aA.jf oH Ru
  refine aQ (aj (ay (ay (ah (aP rfl (aU (gK (hr _ (Pj.right)) underlying23 rfl) (aU (iQ rfl rfl) (aB (aj (aO rfl (fun h2 => ?_) (fun h2 => ?_)))))))))))
  ·(try simp only [aG] at h2)
   have hz := h2
   refine ay (ah (aW rfl (aB (aj (aN (aK (aT (.inl rfl) results18 rfl ?_)))))))
   exact ⟨by rw [if_neg hsm, if_pos (by omega)], by rw [if_neg hsm, if_pos (by omega)]; exact Pj⟩
  ·(try simp only [aG] at h2)
   have hnz : ¬ l.length = 0 := by have h9 := h2; omega
   refine aQ (aj (ay (ah (aP rfl (dD rfl func61 (KP Pj hw) ?_)))))
   rintro _ w9 H9
   obtain ⟨IB, Ag, IC, IE, IG, II, oH, ku⟩ := (H9).search
   have hpk : S.keep.now.pat.length ≤ 1024 := hpl
   have hpk2 : S.keep.now.pat.length + l.length ≤ 1024 := by show S.now.pat.length + l.length ≤ 1024; omega
   refine aB (aj (ay (ah (aP rfl (aP rfl (bT rfl (bf 2 underlying75 rfl sizeOf52 rfl (bf 0 underlying52 rfl sizeOf23 rfl (dA underlying23 rfl (ku).get.2 rfl (aP rfl (gB (jv (vs := [_, _]) ku underlying22 sizeOf23 zeroValue23 rfl rfl rfl (by decide) (aC (by first | rfl | exact Rd.one ((ku.f5).jH)) (aC (by first | rfl | exact Rd.one (hr _ (ku.right.right.right.right.right.right.right))) bg))) ?_)))))))))))
   rintro YA IV vK
   refine dD rfl func62 (Jm vK (fun W HW => (HW).aJ) (fun W HW => (HW.f6).jH) (fun W HW => hr _ (HW.right.right.right.right.right.right.right.right)) (by first|omega|(simp only [List.length_take, List.length_drop]; omega))) ?_
   rintro Xv w12 vM
   refine bT rfl (bf 2 underlying75 rfl sizeOf52 rfl (bf 0 underlying52 rfl sizeOf23 rfl (aI (aS 2 (l' := [_, _, _, _, _, _, _, _, _]) vM.f3 sizeOf23 rfl rfl (by first | rfl | exact Rd.one ((vM).aJ)) rfl rfl) ?_)))
   rintro _ OY xq
   refine aB (aj (ay ?_))
   have RY := xq.f2
   have RZ := RY.jE
   have HX : aA w0 _ (dZ p (S.more l) • F) := aA.jf (S := S.more l) (Vd (TB oH) hw hpk2) RZ.f3.right.f6.right.f7.f7.f3.f7.f7.f7.f7
   obtain ⟨IB, Ag, IC, IE, IG, II, oH, ku⟩ := (HX).search
   refine ah (aP rfl (aP rfl (bT rfl (bf 2 underlying75 rfl sizeOf52 rfl (bf 4 underlying52 rfl sizeOf3 rfl (dA underlying3 rfl (ku).get.2 rfl ?_))))))
   have abF := ku.f7.f7.f7.f7.f7.f7.f7
   have abG := aA.jf oH abF
   refine dD rfl func63 (IJ (S := S.more l) abG) ?_
   rintro _ QW ⟨rfl, zh⟩
   refine aW rfl (aB (aj (aN (aT (.inl rfl) results18 rfl ?_))))
   exact ⟨by rw [if_neg hsm, if_neg hnz]; rfl, by rw [if_neg hsm, if_neg hnz]; exact zh⟩
end
end Go.Proofs.YtddekefihgejoaaGreatDoor
end
section
namespace Go.Proofs.YtddekefihgejoaaGreatDoor
open Go.RowKit
theorem qA {P : Program} {L : List (Nat × Value)} {w : World} {ty t : TypeId} {fs : Array Field} {f : Field} {i : Nat} {x : Operand} {cs : Array Value} {u : Value} (off : Nat) (ht : P.underlying t = some (.struct fs)) (hf : fs[i]? = some f) (ho : f.offset = off) (hp : jC P f.type = true) (hx : ev L x = some (.agg cs)) (hc : cs[off]? = some u) :
    Val P L (.field t x i) ty w u w := fun ρ hρ _ _ _ _ => by
  simp [execOp, hρ _ _ hx, Instr.field, run_underlying ht, hf, part, asAgg, vO hp, ho, hc]
end Go.Proofs.YtddekefihgejoaaGreatDoor
end
