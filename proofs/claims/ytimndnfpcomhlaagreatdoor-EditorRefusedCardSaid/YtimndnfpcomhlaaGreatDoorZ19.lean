import Derived.Test.YtimndnfpcomhlaaGreatDoorZ4
import Derived.Test.YtimndnfpcomhlaaGreatDoorZ9
import Derived.Test.YtimndnfpcomhlaaGreatDoorZ7
import Derived.Test.YtimndnfpcomhlaaGreatDoorZ8
import Derived.Test.YtimndnfpcomhlaaGreatDoorZ3
import Derived.Test.YtimndnfpcomhlaaGreatDoorZ18
import Derived.Test.YtimndnfpcomhlaaGreatDoorZ11
set_option linter.unusedSimpArgs false
set_option linter.unusedVariables false
/- Texts of mine, joined, their names in short: HistF RHist RWalk REd0 EBoth0. -/
section
namespace Go.Proofs.YtimndnfpcomhlaaGreatDoor
open Go.RowKit
open _root_.Go.Proofs.Tryz
def uj (l : List qE) : Int := if l.any (fun x => decide (16384 < x.1.size)) then 3 else if l.any (fun x => decide (x.2 < 0)) then 1 else 0
theorem WO {l : List qE} {k : Nat} (hk : k < l.length) : l.getD k default ∈ l := by rw [List.getD_eq_getElem?_getD, List.getElem?_eq_getElem hk]; exact List.getElem_mem hk
theorem WR {l : List qE} {p : qE → Prop} (h : ∀ k, k < l.length → p (l.getD k default)) : ∀ x ∈ l, p x := by
  intro x hx
  obtain ⟨k, hk, rfl⟩ := List.getElem_of_mem hx
  have := h k hk
  rwa [List.getD_eq_getElem?_getD, List.getElem?_eq_getElem hk] at this
theorem KJ {l : List qE} {k : Nat} (hk : k < l.length) (h : (16384 : Int) < (l.getD k default).1.size) : uj l = 3 := by
  unfold uj
  rw [if_pos (List.any_eq_true.2 ⟨_, WO hk, decide_eq_true (by omega)⟩)]
theorem IY {l : List qE} (h1 : ∀ k, k < l.length → ¬ (16384 : Int) < (l.getD k default).1.size) : uj l = if l.any (fun x => decide (x.2 < 0)) then 1 else 0 := by
  unfold uj
  rw [if_neg]
  intro c
  obtain ⟨x, hx, hd⟩ := List.any_eq_true.1 c
  have := WR (p := fun x => ¬ (16384 : Int) < x.1.size) h1 x hx
  simp at hd; omega
theorem O4 {l : List qE} (h1 : ∀ k, k < l.length → ¬ (16384 : Int) < (l.getD k default).1.size) {k : Nat} (hk : k < l.length) (h : (l.getD k default).2 < 0) : uj l = 1 := by
  rw [IY h1, if_pos (List.any_eq_true.2 ⟨_, WO hk, by simpa using h⟩)]
theorem RZ {l : List qE} (h1 : ∀ k, k < l.length → ¬ (16384 : Int) < (l.getD k default).1.size) (h2 : ∀ k, k < l.length → ¬ (l.getD k default).2 < 0) : uj l = 0 := by
  rw [IY h1, if_neg]
  intro c
  obtain ⟨x, hx, hd⟩ := List.any_eq_true.1 c
  exact WR (p := fun x => ¬ x.2 < 0) h2 x hx (by simpa using hd)
theorem WS {l : List qE} (h : uj l = 0) : ∀ x ∈ l, XR x := by
  intro x hx
  unfold uj at h
  split at h
  · simp at h
  · rename_i h1
    split at h
    · simp at h
    · rename_i h2
      simp only [List.any_eq_true, not_exists, not_and, decide_eq_true_eq] at h1 h2
      exact ⟨by have := h1 x hx; omega, by have := h2 x hx; omega⟩
theorem Gp (l : List qE) (n : Nat) : (l.flatMap kS).drop (n * 2) = (l.drop n).flatMap kS := by
  induction l generalizing n with
  | nil => simp
  | cons x l ih =>
    cases n with
    | zero => simp
    | succ n => rw [show (n + 1) * 2 = n * 2 + 2 from by omega, List.flatMap_cons, List.drop_succ_cons, ← ih n]; simp [kS, List.drop_append]
theorem Si (l : List qE) : (l.flatMap kS).length = l.length * 2 := by induction l with
  | nil => rfl
  | cons x l ih => rw [List.flatMap_cons, List.length_append, ih, wM, List.length_cons]; omega
theorem Ym {W : World} {v : Value} {l : List qE} {n : Nat} (h : Rd W 2 v l.length (l.flatMap kS)) (hn : n ≤ l.length) : Rd W 2 (qQ 2 n l.length v) (l.drop n).length ((l.drop n).flatMap kS) := by
  have h1 := h.cut hn (Nat.le_refl _)
  rw [List.take_of_length_le (by rw [Gp, Si]; simp), Gp] at h1
  rwa [List.length_drop]
section
variable {P : Program} {L : List (Nat × Value)} {w0 w : World} {F : HP} {p : Nat} {hl l : List qE} {base most : Int} {v : Value}
theorem MF (H : V w0 w F) (hv : Bl w0 F 2 v l.length (l.flatMap kS)) (hb : l.length ≤ 35184372087808) : iU prog 84 #[v] w fun v' w' => v' = .int .i64 (uj l) ∧ V w0 w' F := by
 refine ji func84 ntmps84 ?_
 refine lZ O (aO (bM O (aV (iE (hv _ (H)) bT O) (cZ O (iT (bn ?_))))))
 refine iR [(0, _), (7, _), (8, _)] (fun (k : Nat) => [(9, .int .i64 (k : Int))]) (fun (k : Nat) W => (k ≤ l.length ∧ ∀ i, i < k → ¬ (16384 : Int) < (l.getD i default).1.size) ∧ V w0 W F) (fun (k : Nat) => l.length - k) (0) Gf sJ ⟨⟨by omega, fun i hi => absurd hi (by omega)⟩, H⟩ ?_
 rintro k w1 ⟨⟨hk, hsh⟩, HL⟩
 dsimp only [List.cons_append, List.nil_append]
 refine jg (aV (fJ O O) (qj (bI O (fun h1 => ?_) (fun h1 => ?_))))
 ·(try simp only [aH] at h1)
  refine iq (aO (bn (aO ?_)))
  have hkl : k < l.length := by omega
  refine aC ?_
  obtain ⟨bv, ov, cv, ev⟩ := Rd.vS (hv _ (HL)) (by omega)
  cases ev
  refine aV (gU bT jd O O (by omega)) (aV (jC (ys := [_, _]) (hv _ (HL)) (by omega) iy O jd O (kH wM (by omega) default) O) (jL (fE (l := [_, _]) HL nV O) ?_))
  rintro _ w2 ⟨b2, rfl, H2⟩
  refine aI (dh 0 (l' := [_, _]) (us := [_, _]) H2 jd O O O (aF (aF bK)) O O) ?_
  rintro _ w3 H3
  refine Xy (bf 0 iy O sizeOf9 O (dQ kG O (H3).get.2 O (aV (JH kG O) (aV (fZ O O) (kK O (fun h2 => ?_) (fun h2 => ?_))))))
  ·(try simp only [aH] at h2)
   have hkb := h2
   refine lF O (bD (aK (aK (bD (aK (fB results84 O ?_))))))
   exact ⟨by rw [KJ hkl hkb], H3.right⟩
  ·(try simp only [aH] at h2)
   have hks : ¬ (16384 : Int) < (l.getD k default).1.size := by have h9 := h2; omega
   refine fU (aN (bg (aC (aV (gX O O (by omega)) (cZ O (bY ?_))))))
   refine fG (k + 1) ?_ ?_ ?_ ?_
   ·exact sJ
   ·exact Gf
   ·(try dsimp only)
    first | done | exact ⟨⟨by omega, fun i hi => (show i < k ∨ i = k from by omega).elim (hsh i) (fun c => c ▸ hks)⟩, H3.right⟩
   ·(try dsimp only); omega
 ·(try simp only [aH] at h1)
  refine iJ (aX (aX (dA (bg (aO (aO ?_))))))
  obtain rfl : k = l.length := by omega
  refine aC (cZ O (aV (iE (hv _ (HL)) bT O) (cZ O (iT (bn ?_)))))
  refine iR [(18, _), (19, _)] (fun (k2 : Nat) => [(20, .int .i64 (k2 : Int))]) (fun (k2 : Nat) W => (k2 ≤ l.length ∧ ∀ i, i < k2 → ¬ (l.getD i default).2 < 0) ∧ V w0 W F) (fun (k2 : Nat) => l.length - k2) (0) vT sJ ⟨⟨by omega, fun i hi => absurd hi (by omega)⟩, HL⟩ ?_
  rintro k2 w4 ⟨⟨hk2, hpo⟩, HL2⟩
  dsimp only [List.cons_append, List.nil_append]
  refine jg (aV (fJ O O) (qj (bI O (fun h3 => ?_) (fun h3 => ?_))))
  ·(try simp only [aH] at h3)
   refine iq (aO (bn (aO ?_)))
   have hkl2 : k2 < l.length := by omega
   refine aC ?_
   obtain ⟨bv, ov, cv, ev⟩ := Rd.vS (hv _ (HL2)) (by omega)
   cases ev
   refine aV (gU bT jd O O (by omega)) (aV (jC (ys := [_, _]) (hv _ (HL2)) (by omega) iy O jd O (kH wM (by omega) default) O) (jL (fE (l := [_, _]) HL2 nV O) ?_))
   rintro _ w5 ⟨b5, rfl, H5⟩
   refine aI (dh 0 (l' := [_, _]) (us := [_, _]) H5 jd O O O (aF (aF bK)) O O) ?_
   rintro _ w6 H6
   refine Xy (bf 1 iy O jS O (dQ jJ O (H6).get.2 O (aV (fJ O O) (kK O (fun h4 => ?_) (fun h4 => ?_)))))
   ·(try simp only [aH] at h4)
    have hkn := h4
    refine lF O (bD (aK (aK (bD (aK (fB results84 O ?_))))))
    exact ⟨by rw [O4 hsh hkl2 hkn], H6.right⟩
   ·(try simp only [aH] at h4)
    have hkp : ¬ (l.getD k2 default).2 < 0 := by have h9 := h4; omega
    refine fU (aN (bg (aC (aV (gX O O (by omega)) (cZ O (bY ?_))))))
    refine fG (k2 + 1) ?_ ?_ ?_ ?_
    ·exact sJ
    ·exact vT
    ·(try dsimp only)
     first | done | exact ⟨⟨by omega, fun i hi => (show i < k2 ∨ i = k2 from by omega).elim (hpo i) (fun c => c ▸ hkp)⟩, H6.right⟩
    ·(try dsimp only); omega
  ·(try simp only [aH] at h3)
   refine iJ (aX (aX (dA (bg (aO ?_)))))
   obtain rfl : k2 = l.length := by omega
   refine aC (iW O (fB results84 O ?_))
   exact ⟨by rw [RZ hsh hpo], HL2⟩
def oH (hl : List qE) (most : Int) : Nat := hl.length - most.toNat
theorem ET (H : V w0 w (dR p (.cells #[v, .int .i64 base, .int .i64 most] 119 (0, 0)) • Row 152 2 v hl.length (hl.flatMap kS) • F)) (hm : 0 ≤ most ∧ most ≤ 4096) (hb : 1 ≤ base ∧ base ≤ 2305843009213693952) (hn : hl.length ≤ 70368744177664) :
  iU prog 85 #[.pointer (some ⟨p, 0, none⟩)] w fun _ w' => ∃ v', V w0 w' (dR p (.cells #[v', .int .i64 (base + oH hl most), .int .i64 most] 119 (0, 0)) • Row 152 2 v' (hl.drop (oH hl most)).length ((hl.drop (oH hl most)).flatMap kS) • F) := by
 refine ji func85 ntmps85 ?_
 refine aO ?_
 have Uh := H.drew
 have xK := V.kp (Uh.f2.f2)
 refine xP [4, 10] xK O (jc 0 O xK O (kN 1 O xK O (fV 2 O xK 0 fO O kD O (fV 3 O xK 0 fP O iZ O (jq 4 O xK (fun W hW => jV bT O ((Kp.h hW)).get.2 O) (jW 5 O xK (fun _ => iE ((Uh.f2).aP) bT O) (jc 6 O xK O (kN 7 O xK O (fV 8 O xK 0 fO O kD O (fV 9 O xK 2 fP O aj O (jq 10 O xK (fun W hW => jV ay O ((Kp.h hW)).get.2 O) (jW 11 O xK (fun _ => lX O O (by omega)) (jW 12 O xK (fun _ => iV O) (qp (bg (bM O (aV (fZ O O) (kK O (fun h1 => ?_) (fun h1 => ?_)))))))))))))))))))
 ·(try simp only [aH] at h1)
  have hk : (oH hl most : Int) = (hl.length : Int) - most := by have h9 := h1; unfold oH; omega
  refine bM O (ny O O (bf 0 fO O kD O (bf 0 fP O iZ O (dQ bT O (Uh).get.2 O (cZ O (aV (yx ((Uh.f2).aP) bT jd O O O (by omega)) ?_))))))
  refine dZ O func88 (D9 (hl := hl.drop (oH hl most)) Uh (fun W HW => by rw [show ((hl.length : Int) - most).toNat = oH hl most from by omega, show ((hl.length : Nat) : Int).toNat = hl.length from by omega]; exact Ym HW.f2.aP (by unfold oH; omega)) (by rw [List.length_drop]; unfold oH; omega)) ?_
  rintro u1 w1 H1
  refine dM O (bf 0 fO O kD O (bf 0 fP O iZ O (aI (fM 0 (l' := [_, _, _]) H1.f2 iZ O O (by first | rfl | exact Rd.one ((H1).aP)) O O) ?_)))
  rintro _ w2 H2
  refine iT (aC (ny O O (bf 0 fO O kD O (bf 1 fP O jS O (dQ jJ O (H2).get.2 O (cZ O (aV (gX O O (by omega)) (dM O (bf 0 fO O kD O (bf 1 fP O jS O (aI (st3 1 H2 jS) ?_)))))))))))
  rintro _ w3 H3
  refine bY (gQ (.inr O) results85 ?_)
  exact ⟨_, by rw [hk]; exact H3.f3.right.f2.f2⟩
 ·(try simp only [aH] at h1)
  have hk : oH hl most = 0 := by have h9 := h1; unfold oH; omega
  refine fU (gQ (.inr O) results85 ?_)
  exact ⟨_, by rw [hk]; simpa using Uh⟩
theorem YX {hl l : List qE} {base most : Int} (h : YE hl base most) (hb : hl.length + l.length ≤ 5864062014805) (hm : uj l = 0) (hbase : base ≤ 1152921504606846976) : YE ((hl ++ l).drop (oH (hl ++ l) most)) (base + oH (hl ++ l) most) most := by
  obtain ⟨h1, h2, h3, h4, h5, h6⟩ := h
  have hl1 : (hl ++ l).length = hl.length + l.length := List.length_append
  refine ⟨?_, ?_, ?_, ?_, h5, fun x hx => ?_⟩
  · rw [List.length_drop]; unfold oH; omega
  · omega
  · unfold oH; omega
  · rw [List.length_drop]; unfold oH; omega
  · rcases List.mem_append.1 (List.mem_of_mem_drop hx) with c | c
    · exact h6 x c
    · exact WS hm x c
def MG (hl : List qE) (most : Int) (l : List qE) : List qE := if uj l = 0 then (hl ++ l).drop (oH (hl ++ l) most) else hl
def MH (hl : List qE) (base most : Int) (l : List qE) : Int := if uj l = 0 then base + oH (hl ++ l) most else base
theorem Ep (H : V w0 w (gK p hl base most • F)) (hv : Bl w0 F 2 v l.length (l.flatMap kS)) (hb : hl.length + l.length ≤ 5864062014805) (hbase : base ≤ 1152921504606846976) :
  iU prog 42 #[.pointer (some ⟨p, 0, none⟩), v] w fun v' w' => v' = .int .i64 (uj l) ∧ V w0 w' (gK p (MG hl most l) (MH hl base most l) most • F) := by
 refine oP func42 ntmps42 ?_
 refine lZ O (aO (bM O (dZ O func83 (yc H) ?_)))
 rintro _ _ ⟨rfl, rfl⟩
 refine iT (vO (iq (aO (bM O (dZ O func84 (MF H (fun W HW => hv _ (HW.right)) (by omega)) ?_)))))
 rintro _ w2 ⟨rfl, H2⟩
 refine gY O (bM O (aV (dO O O) (kK O (fun h1 => ?_) (fun h1 => ?_))))
 ·(try simp only [aH] at h1)
  have hm := h1
  refine bM O (iW O (aK (fB results42 O ?_)))
  exact ⟨O, by unfold MG MH; rw [if_neg hm, if_neg hm]; exact H2⟩
 ·(try simp only [aH] at h1)
  have hm : uj l = 0 := h1
  refine iq (aO ?_)
  obtain ⟨LM, sS, vC⟩ := (H2).hist
  have hkl := sS.1
  have hon := @D8 l
  refine aC (mQ O O (dM O (bf 0 fO O kD O (bf 0 fP O iZ O (dQ bT O (vC).get.2 O (cZ O (jL (iQ vC.f2 bT MI O O O (hv _ (vC.right.right)) (by assumption) (by omega) (by omega)) ?_)))))))
  rintro l4 w4 H4
  refine dM O (bf 0 fO O kD O (bf 0 fP O iZ O (aI (fM 0 (l' := [_, _, _]) H4.f2 iZ O O (by first | rfl | exact Rd.one ((H4).aP)) O O) ?_)))
  rintro _ w5 H5
  refine sU O (dZ O func85 (ET (hl := hl ++ l) (by rw [List.flatMap_append, List.length_append]; exact H5.f2.f2) ⟨by have := sS.2.2.2.1; omega, sS.2.2.2.2.1⟩ ⟨sS.2.1, by omega⟩ (by have := sS.1; rw [List.length_append]; omega)) ?_)
  rintro _ w6 ⟨v2, H6⟩
  refine iT (lF O (fB results42 O ?_))
  exact ⟨by rw [hm], by unfold MG MH; rw [if_pos hm, if_pos hm]; exact V.BF (YX sS hb hm hbase) H6⟩
theorem Jz {n : Int} (H : V w0 w F) (hn : 0 ≤ n ∧ n ≤ 4096) (hv : Bl w0 F 2 v l.length (l.flatMap kS)) (hb : l.length ≤ 5864062014805) (hm : uj l ≠ 0) : iU prog 11 #[.int .i64 n, v] w fun v' w' =>
    v' = .tuple #[.pointer none, .int .i64 (uj l)] ∧ V w0 w' F := by
  refine oP func11 ntmps11 ?_
  refine jg (lU O (gY O (bM O (dZ O func15 (zq H (by omega)) ?_))))
  rintro _ w1 ⟨p1, rfl, H1⟩
  refine cZ O (rO O O (rO O O (lU O (tJ O (bM O (aV (dO O O) (iT (I8 O (fun h1 => ?_)))))))))
  (try simp only [aH] at h1)
  refine iq (aO (bM O (cZ O (dZ O func42 (Ep H1 hv (by simp; omega) (by decide)) ?_))))
  rintro _ w2 ⟨rfl, H2⟩
  refine gY O (bM O (aV (dO O O) (kK O (fun h2 => ?_) (fun h => by exfalso; (try simp only [aH] at h); exact hm h))))
  (try simp only [aH] at h2)
  refine bM O (lU O (iW O (aK (DL results11 O O ?_))))
  exact ⟨O, H2.right⟩
theorem IZ {n : Int} (H : V w0 w F) (hn : 0 ≤ n ∧ n ≤ 4096) (hv : Bl w0 F 2 v l.length (l.flatMap kS)) (hb : l.length ≤ 5864062014805) (hm : uj l = 0) : iU prog 11 #[.int .i64 n, v] w fun v' w' =>
    ∃ p, v' = .tuple #[.pointer (some ⟨p, 0, none⟩), .int .i64 0] ∧ V w0 w' (gK p (MG [] n l) (MH [] 1 n l) n • F) := by
  refine oP func11 ntmps11 ?_
  refine jg (lU O (gY O (bM O (dZ O func15 (zq H (by omega)) ?_))))
  rintro _ w1 ⟨p1, rfl, H1⟩
  refine cZ O (rO O O (rO O O (lU O (tJ O (bM O (aV (dO O O) (iT (I8 O (fun h1 => ?_)))))))))
  (try simp only [aH] at h1)
  refine iq (aO (bM O (cZ O (dZ O func42 (Ep H1 hv (by simp; omega) (by decide)) ?_))))
  rintro _ w2 ⟨rfl, H2⟩
  refine gY O (bM O (aV (dO O O) (kK O (fun h => by exfalso; (try simp only [aH] at h); exact h hm) (fun h2 => ?_))))
  (try simp only [aH] at h2)
  refine iq (bM O (lU O (iW O (DL results11 O O ?_))))
  exact ⟨_, O, H2⟩
end
def YZ (l : List qE) : List qE := MG [] 4096 l
def Y0 (l : List qE) : Int := MH [] 1 4096 l
theorem FX.cut {I : Hp} {v : Value} {sz n : Nat} {xs : List Value} (hr : FX I sz v n xs) {l h : Nat} (h1 : l ≤ h) (h2 : h ≤ n) : FX I sz (qQ sz l h v) (h - l) ((xs.drop (l * sz)).take ((h - l) * sz)) := by
  obtain ⟨hl, a, c, rfl, hc1, hc2, hc⟩ := hr
  refine ⟨?_, CX a l c sz, c - l, rfl, by omega, by omega, fun hp => ?_⟩
  · rw [List.length_take, List.length_drop, hl, ← Nat.sub_mul]
    exact Nat.min_eq_left (Nat.mul_le_mul_right _ (by omega))
  · obtain ⟨b, o, cs, e, fr, rfl, hI, hcell⟩ := hc (by omega)
    have : ¬ c = l := by omega
    refine ⟨b, o + l * sz, cs, e, fr, by simp [CX, this, uw], hI, fun j hj => ?_⟩
    have e1 : l * sz + (h - l) * sz = h * sz := by rw [← Nat.add_mul]; congr 1; omega
    have e2 : h * sz ≤ n * sz := Nat.mul_le_mul_right _ h2
    have := hcell (l * sz + j) (by omega)
    rw [Nat.add_assoc, this, List.getD_eq_getElem?_getD, List.getD_eq_getElem?_getD, List.getElem?_take, if_pos hj, List.getElem?_drop]
theorem Rd.abz {w : World} {v : Value} {sz n : Nat} {xs : List Value} (hr : Rd w sz v n xs) {i : Nat} (h : i ≤ n) : Rd w sz (qQ sz i n v) (n - i) (xs.drop (i * sz)) := by
  have h1 := hr.cut h (Nat.le_refl _)
  rwa [List.take_of_length_le (by rw [List.length_drop, hr.len, ← Nat.sub_mul]; exact Nat.le_refl _)] at h1
def WT (v : Value) (l : List qE) : HP := know (fun I => FX I 2 v l.length (l.flatMap kS)) fun _ _ hl h => h.mono hl
def nR (p : Nat) (hl : List qE) (base most : Int) : HP := wR fun (v : Value) => fact (YE hl base most) • dR p (.cells #[v, .int .i64 base, .int .i64 most] 149 (0, 0)) • WT v hl
section
variable {P : Program} {L : List (Nat × Value)} {w0 w : World} {F : HP} {p : Nat} {hl l : List qE} {base most : Int} {v : Value}
theorem V.zJ (H : V w0 w (WT v l • F)) : Rd w 2 v l.length (l.flatMap kS) := let ⟨I, h, hI⟩ := H.xw; h.rd hI
theorem V.EU (H : V w0 w (Row 152 2 v l.length (l.flatMap kS) • F)) : V w0 w (WT v l • F) := by
  have hl := H.y7
  rcases H.wV with ⟨a, rfl, h1, h2, H1⟩ | ⟨g, o, c, cur, rfl, h2, h3, h4, h5, H1⟩
  · exact H1.Gg fun I => ⟨hl, a, 0, by rw [h1], by omega, by decide, fun h => by omega⟩
  · exact H1.freeze.F7 (tN (fun I hI => ⟨hl, _, c, rfl, h2, h3, fun _ => ⟨g, o, cur, _, (0, 0), rfl, hI, h5⟩⟩) F)
theorem V.Yn (H : V w0 w (WT v l • F)) (h : 1 ≤ l.length) : V w0 w (WT (qQ 2 1 l.length v) (l.drop 1) • F) := H.F7 (tN (fun I hI => by
  have h1 := hI.cut h (Nat.le_refl _)
  rw [List.take_of_length_le (by rw [Gp, Si]; simp), Gp] at h1
  rwa [List.length_drop]) F)
theorem V.WU (H : V w0 w (nR p hl base most • F)) : ∃ v, YE hl base most ∧ V w0 w (dR p (.cells #[v, .int .i64 base, .int .i64 most] 149 (0, 0)) • WT v hl • F) := by
  obtain ⟨v, H⟩ := H.qP
  obtain ⟨h, H⟩ := H.flat.fact
  exact ⟨v, h, H.flat⟩
theorem V.Bd (h : YE hl base most) (H : V w0 w (dR p (.cells #[v, .int .i64 base, .int .i64 most] 149 (0, 0)) • WT v hl • F)) : V w0 w (nR p hl base most • F) :=
  V.jQ v (V.deep (V.nH h H.deep))
theorem WV {l : List qE} {k : Nat} (hk : k < l.length) : (l.flatMap kS).getD (k * 2 + 0) undef = .string (l.getD k default).1 := by
  have h := congrArg (fun x => x.getD 0 undef) (kH wM hk default)
  simp only [List.getD_eq_getElem?_getD, List.getElem?_take, List.getElem?_drop] at h ⊢
  exact h
theorem aam {l : List qE} {k : Nat} (hk : k < l.length) : (l.flatMap kS).getD (k * 2 + 1) undef = .int .i64 (l.getD k default).2 := by
  have h := congrArg (fun x => x.getD 1 undef) (kH wM hk default)
  simp only [List.getD_eq_getElem?_getD, List.getElem?_take, List.getElem?_drop] at h ⊢
  exact h
theorem JA (H : V w0 w F) (hv : Bl w0 F 2 v l.length (l.flatMap kS)) (hb : l.length ≤ 35184372087808) : iU prog 86 #[v] w fun v' w' => v' = .int .i64 (uj l) ∧ V w0 w' F := by
 refine ji func86 ntmps86 ?_
 refine lZ O (aO (lZ O (bn ?_)))
 refine iR [(0, _)] (fun (k : Nat) => [(3, .int .i64 (k : Int))]) (fun (k : Nat) W => (k ≤ l.length ∧ ∀ i, i < k → ¬ (16384 : Int) < (l.getD i default).1.size) ∧ V w0 W F) (fun (k : Nat) => l.length - k) (0) sJ sJ ⟨⟨by omega, fun i hi => absurd hi (by omega)⟩, H⟩ ?_
 rintro k w1 ⟨⟨hk, hsh⟩, HL⟩
 dsimp only [List.cons_append, List.nil_append]
 refine aO (bM O (cZ O (aV (iE (hv _ (HL)) bT O) (aV (fJ O O) (kK O (fun h1 => ?_) (fun h1 => ?_))))))
 ·(try simp only [aH] at h1)
  refine iq (aO (bn (aO ?_)))
  have hkl : k < l.length := by omega
  refine aC (mQ O O ?_)
  obtain ⟨bv, ov, cv, ev⟩ := Rd.vS (hv _ (HL)) (by omega)
  cases ev
  refine aV (gU bT jd O O (by omega)) (bf 0 iy O sizeOf9 O (aV (Ut (jM (fK kG O) O (Rd.atS (hv _ (HL)) (by omega) (by decide))) (WV hkl)) (aV (JH kG O) (aV (fZ O O) (kK O (fun h2 => ?_) (fun h2 => ?_))))))
  ·(try simp only [aH] at h2)
   have hkb := h2
   refine lF O (bD (aK (aK (bD (aK (fB results86 O ?_))))))
   exact ⟨by rw [KJ hkl hkb], HL⟩
  ·(try simp only [aH] at h2)
   have hks : ¬ (16384 : Int) < (l.getD k default).1.size := by have h9 := h2; omega
   refine fU (aN (bg (aC (cZ O (aV (gX O O (by omega)) (lU O (bY ?_)))))))
   refine fG (k + 1) ?_ ?_ ?_ ?_
   ·exact sJ
   ·exact sJ
   ·(try dsimp only)
    first | done | exact ⟨⟨by omega, fun i hi => (show i < k ∨ i = k from by omega).elim (hsh i) (fun c => c ▸ hks)⟩, HL⟩
   ·(try dsimp only); omega
 ·(try simp only [aH] at h1)
  refine iJ (aX (aX (dA (bg (aO (aO ?_))))))
  obtain rfl : k = l.length := by omega
  refine aC (gY O (bn ?_))
  refine iR [(0, _)] (fun (k2 : Nat) => [(4, .int .i64 (k2 : Int))]) (fun (k2 : Nat) W => (k2 ≤ l.length ∧ ∀ i, i < k2 → ¬ (l.getD i default).2 < 0) ∧ V w0 W F) (fun (k2 : Nat) => l.length - k2) (0) sJ sJ ⟨⟨by omega, fun i hi => absurd hi (by omega)⟩, HL⟩ ?_
  rintro k2 w2 ⟨⟨hk2, hpo⟩, HL2⟩
  dsimp only [List.cons_append, List.nil_append]
  refine aO (bM O (cZ O (aV (iE (hv _ (HL2)) bT O) (aV (fJ O O) (kK O (fun h3 => ?_) (fun h3 => ?_))))))
  ·(try simp only [aH] at h3)
   refine iq (aO (bn (aO ?_)))
   have hkl2 : k2 < l.length := by omega
   refine aC (mQ O O ?_)
   obtain ⟨bv, ov, cv, ev⟩ := Rd.vS (hv _ (HL2)) (by omega)
   cases ev
   refine aV (gU bT jd O O (by omega)) (bf 1 iy O jS O (aV (Ut (jM (fK jJ O) O (Rd.atS (hv _ (HL2)) (by omega) (by decide))) (aam hkl2)) (aV (fJ O O) (kK O (fun h4 => ?_) (fun h4 => ?_)))))
   ·(try simp only [aH] at h4)
    have hkn := h4
    refine lF O (bD (aK (aK (bD (aK (fB results86 O ?_))))))
    exact ⟨by rw [O4 hsh hkl2 hkn], HL2⟩
   ·(try simp only [aH] at h4)
    have hkp : ¬ (l.getD k2 default).2 < 0 := by have h9 := h4; omega
    refine fU (aN (bg (aC (cZ O (aV (gX O O (by omega)) (lU O (bY ?_)))))))
    refine fG (k2 + 1) ?_ ?_ ?_ ?_
    ·exact sJ
    ·exact sJ
    ·(try dsimp only)
     first | done | exact ⟨⟨by omega, fun i hi => (show i < k2 ∨ i = k2 from by omega).elim (hpo i) (fun c => c ▸ hkp)⟩, HL2⟩
    ·(try dsimp only); omega
  ·(try simp only [aH] at h3)
   refine iJ (aX (aX (dA (bg (aO ?_)))))
   obtain rfl : k2 = l.length := by omega
   refine aC (iW O (fB results86 O ?_))
   exact ⟨by rw [RZ hsh hpo], HL2⟩
theorem JB (H : V w0 w (dR p (.cells #[v, .int .i64 base, .int .i64 most] 149 (0, 0)) • WT v hl • F)) (hm : 0 ≤ most ∧ most ≤ 4096) (hb : 1 ≤ base ∧ base ≤ 2305843009213693952) (hn : hl.length ≤ 70368744177664) :
  iU prog 87 #[.pointer (some ⟨p, 0, none⟩)] w fun _ w' => ∃ v', V w0 w' (dR p (.cells #[v', .int .i64 (base + oH hl most), .int .i64 most] 149 (0, 0)) • WT v' (hl.drop (oH hl most)) • F) := by
 refine ji func87 ntmps87 ?_
 refine bn ?_
 refine iR [(0, _)] (fun (⟨k, u⟩ : Nat × Value) => []) (fun (⟨k, u⟩ : Nat × Value) W => k ≤ oH hl most ∧ V w0 W (dR p (.cells #[u, .int .i64 (base + k), .int .i64 most] 149 (0, 0)) • WT u (hl.drop k) • F)) (fun (⟨k, u⟩ : Nat × Value) => oH hl most - k) ((0, v)) sJ (Sub.nil _) ⟨by omega, by simpa using H⟩ ?_
 rintro ⟨k, u⟩ w1 ⟨hk, HL⟩
 dsimp only [List.cons_append, List.nil_append]
 refine aO (aO ?_)
 have QF := HL.drew
 have Bf := V.kp (QF.f2.f2)
 refine xP [3, 8] Bf O (jc 0 O Bf O (kN 1 O Bf O (fV 2 O Bf 0 fQ O iZ O (jq 3 O Bf (fun W hW => jV bT O ((Kp.h hW)).get.2 O) (jW 4 O Bf (fun _ => iE ((QF.f2).zJ) bT O) (jc 5 O Bf O (kN 6 O Bf O (fV 7 O Bf 2 fQ O aj O (jq 8 O Bf (fun W hW => jV ay O ((Kp.h hW)).get.2 O) (jW 9 O Bf (fun _ => fZ O O) (qp (bg (bI O (fun h1 => ?_) (fun h1 => ?_))))))))))))))
 ·(try simp only [aH] at h1)
  have hlt : k < oH hl most := by have h9 := h1; rw [List.length_drop] at h9; unfold oH; omega
  have hdl : (hl.drop k).length = hl.length - k := List.length_drop
  have hd1 : 1 ≤ (hl.drop k).length := by rw [hdl]; unfold oH at hlt; omega
  refine iq (bn (bM O (ny O O (bf 0 fQ O iZ O (dQ bT O (QF).get.2 O (aV (yx ((QF.f2).zJ) bT jd O O O (by omega)) ?_))))))
  refine dM O (bf 0 fQ O iZ O (aI (fM 0 (l' := [_, _, _]) QF iZ O O (by first | rfl | exact Rd.one (Rd.abz ((QF.f2).zJ) (by omega))) O O) ?_))
  rintro _ w2 H2
  refine iT (aC (ny O O (bf 1 fQ O jS O (dQ jJ O (H2).get.2 O (aV (gX O O (by omega)) (dM O (bf 1 fQ O jS O (aI (st3 1 H2 jS) ?_))))))))
  rintro _ w3 H3
  have HN := (H3.f2).Yn hd1 |>.swap
  rw [List.drop_drop] at HN
  refine bY (aN ?_)
  refine fG ((k + 1, qQ 2 1 (hl.drop k).length u)) ?_ ?_ ?_ ?_
  ·exact (Sub.nil _)
  ·exact sJ
  ·(try dsimp only)
   first | done | exact ⟨by omega, by rw [show (base + ((k + 1 : Nat) : Int)) = base + k + 1 from by omega]; exact HN⟩
  ·(try dsimp only); omega
 ·(try simp only [aH] at h1)
  have hge : k = oH hl most := by have h9 := h1; rw [List.length_drop] at h9; unfold oH at hk ⊢; omega
  refine iJ (aX (aX (dA (gQ (.inr O) results87 ?_))))
  exact ⟨_, by rw [← hge]; exact QF⟩
theorem CP (H : V w0 w (nR p hl base most • F)) (hv : Bl w0 F 2 v l.length (l.flatMap kS)) (hb : hl.length + l.length ≤ 5864062014805) (hbase : base ≤ 1152921504606846976) :
  iU prog 44 #[.pointer (some ⟨p, 0, none⟩), v] w fun v' w' => v' = .int .i64 (uj l) ∧ V w0 w' (nR p (MG hl most l) (MH hl base most l) most • F) := by
 refine oP func44 ntmps44 ?_
 refine lZ O (aO (bM O (dZ O func86 (JA H (fun W HW => hv _ (HW.right)) (by omega)) ?_)))
 rintro _ w1 ⟨rfl, H1⟩
 refine gY O (bM O (aV (dO O O) (kK O (fun h1 => ?_) (fun h1 => ?_))))
 ·(try simp only [aH] at h1)
  have hm := h1
  refine bM O (iW O (aK (fB results44 O ?_)))
  exact ⟨O, by unfold MG MH; rw [if_neg hm, if_neg hm]; exact H1⟩
 ·(try simp only [aH] at h1)
  have hm : uj l = 0 := h1
  refine iq (aO ?_)
  obtain ⟨LM, sS, vC⟩ := (H1).WU
  have hkl := sS.1
  have hon := @D8 l
  have acU := @D8 hl
  refine aC (mQ O O (dM O (bf 0 fQ O iZ O (dQ bT O (vC).get.2 O (jL (iQ (vC.jH none) bT MI O O O ((vC.f2).zJ) (by assumption) (by omega) (by omega)) ?_)))))
  rintro l3 w3 H3
  refine cZ O (jL (iQ H3 bT MI O O O (hv _ (H3.right.right.right)) (by assumption) (by omega) (by omega)) ?_)
  rintro l4 w4 H4
  refine dM O (bf 0 fQ O iZ O (aI (fM 0 (l' := [_, _, _]) H4.f2 iZ O O (by first | rfl | exact Rd.one ((H4).aP)) O O) ?_))
  rintro _ w5 H5
  refine sU O (dZ O func87 (JB (hl := hl ++ l) (by have HQ := H5.f3.right.f2; rw [List.nil_append, Nat.zero_add, ← List.flatMap_append, ← List.length_append] at HQ; exact HQ.EU.swap) ⟨by have := sS.2.2.2.1; omega, sS.2.2.2.2.1⟩ ⟨sS.2.1, by omega⟩ (by have := sS.1; rw [List.length_append]; omega)) ?_)
  rintro _ w6 ⟨v2, H6⟩
  refine iT (lF O (fB results44 O ?_))
  exact ⟨by rw [hm], by unfold MG MH; rw [if_pos hm, if_pos hm]; exact V.Bd (YX sS hb hm hbase) H6⟩
theorem CQ {n : Int} (H : V w0 w F) (hn : 0 ≤ n ∧ n ≤ 4096) : iU prog 43 #[.int .i64 n] w fun v w' => ∃ p, v = .tuple #[.pointer (some ⟨p, 0, none⟩), .int .i64 0] ∧ V w0 w' (nR p [] 1 n • F) := by
  refine ji func43 ntmps43 ?_
  refine jg (lU O (tJ O (bM O (aV (fJ O O) (qC O (fun h1 => ?_) (fun h1 => ?_))))))
  · (try simp only [aH] at h1)
    exfalso; first | contradiction | omega
  · (try simp only [aH] at h1)
    refine bU (cZ O (bU (aV (fZ O O) (lV O O (kK O (fun h2 => ?_) (fun h2 => ?_))))))
    · (try simp only [aH] at h2)
      exfalso; first | contradiction | omega
    · (try simp only [aH] at h2)
      refine iq (bM O ?_)
      refine aV (gB (zl := [.slice none 0 0, .int .i64 0, .int .i64 0]) (pl := [(0, 1), (1, 1), (2, 1)]) [_, _, _] fQ zeroValue149 O (fun w => by kernel_rfl) O (.zero (zs := [.slice none 0 0]) O (.on (.on .nil))) O) ?_
      refine jL (jG (l := [_, _, _]) H O O) ?_
      rintro _ w1 ⟨b1, rfl, H1⟩
      refine lU O (iW O (DL results43 O O ?_))
      exact ⟨_, O, V.Bd (v := .slice none 0 0) (hl := []) ⟨by simp, by decide, by decide, by simp; omega, by omega, by simp⟩ ((H1.jH none).EU (l := [])).swap⟩
theorem I4 {n : Int} (H : V w0 w F) (hn : 0 ≤ n ∧ n ≤ 4096) (hv : Bl w0 F 2 v l.length (l.flatMap kS)) (hb : l.length ≤ 5864062014805) (hm : uj l ≠ 0) : iU prog 12 #[.int .i64 n, v] w fun v' w' =>
    v' = .tuple #[.pointer none, .int .i64 (uj l)] ∧ V w0 w' F := by
  refine oP func12 ntmps12 ?_
  refine jg (lU O (gY O (bM O (dZ O func43 (CQ H (by omega)) ?_))))
  rintro _ w1 ⟨p1, rfl, H1⟩
  refine cZ O (rO O O (rO O O (lU O (tJ O (bM O (aV (dO O O) (iT (I8 O (fun h1 => ?_)))))))))
  (try simp only [aH] at h1)
  refine iq (aO (bM O (cZ O (dZ O func44 (CP H1 hv (by simp; omega) (by decide)) ?_))))
  rintro _ w2 ⟨rfl, H2⟩
  refine gY O (bM O (aV (dO O O) (kK O (fun h2 => ?_) (fun h => by exfalso; (try simp only [aH] at h); exact hm h))))
  (try simp only [aH] at h2)
  refine bM O (lU O (iW O (aK (DL results12 O O ?_))))
  exact ⟨O, H2.right⟩
theorem F5 {n : Int} (H : V w0 w F) (hn : 0 ≤ n ∧ n ≤ 4096) (hv : Bl w0 F 2 v l.length (l.flatMap kS)) (hb : l.length ≤ 5864062014805) (hm : uj l = 0) : iU prog 12 #[.int .i64 n, v] w fun v' w' =>
    ∃ p, v' = .tuple #[.pointer (some ⟨p, 0, none⟩), .int .i64 0] ∧ V w0 w' (nR p (MG [] n l) (MH [] 1 n l) n • F) := by
  refine oP func12 ntmps12 ?_
  refine jg (lU O (gY O (bM O (dZ O func43 (CQ H (by omega)) ?_))))
  rintro _ w1 ⟨p1, rfl, H1⟩
  refine cZ O (rO O O (rO O O (lU O (tJ O (bM O (aV (dO O O) (iT (I8 O (fun h1 => ?_)))))))))
  (try simp only [aH] at h1)
  refine iq (aO (bM O (cZ O (dZ O func44 (CP H1 hv (by simp; omega) (by decide)) ?_))))
  rintro _ w2 ⟨rfl, H2⟩
  refine gY O (bM O (aV (dO O O) (kK O (fun h => by exfalso; (try simp only [aH] at h); exact h hm) (fun h2 => ?_))))
  (try simp only [aH] at h2)
  refine iq (bM O (lU O (iW O (DL results12 O O ?_))))
  exact ⟨_, O, H2⟩
theorem F6 (H : V w0 w (nR p hl base most • F)) : iU prog 90 #[.pointer (some ⟨p, 0, none⟩)] w fun v w' => ∃ q, v = .pointer (some ⟨q, 0, none⟩) ∧ V w0 w' (nR q hl base most • nR p hl base most • F) := by
 refine ji func90 ntmps90 ?_
 refine lZ O (aO ?_)
 obtain ⟨LM, sS, vC⟩ := (H).WU
 have hkl := sS.1
 have acU := @D8 hl
 have P9 := vC.drew
 have oI := V.kp (P9.f2.f2)
 refine xP [3, 8, 12] oI O (jc 0 O oI O (kN 1 O oI O (fV 2 O oI 0 fQ O iZ O (jq 3 O oI (fun W hW => jV bT O ((Kp.h hW)).get.2 O) (jc 5 O oI O (kN 6 O oI O (fV 7 O oI 1 fQ O jS O (jq 8 O oI (fun W hW => jV jJ O ((Kp.h hW)).get.2 O) (jc 9 O oI O (kN 10 O oI O (fV 11 O oI 2 fQ O aj O (jq 12 O oI (fun W hW => jV ay O ((Kp.h hW)).get.2 O) (mP 4 O (iQ (P9.jH none) bT MI O O O ((P9.f2).zJ) (by assumption) (by omega) (by omega)) ?_)))))))))))))
 rintro l2 w2 H2
 have NJ := V.kp (H2.f3.f3.f3)
 refine dK NJ (fun W hW => (Kp.h hW).right.f2.f2) ?_
 refine jW 13 O NJ (fun _ => gB (zl := [.slice none 0 0, .int .i64 0, .int .i64 0]) (pl := [(0, 1), (1, 1), (2, 1)]) [_, _, _] fQ zeroValue149 O (fun w => by kernel_rfl) O (.one (Rd.one ((H2).aP)) (.on (.on .nil))) O) ?_
 refine mP 14 O (jG (l := [_, _, _]) H2 O O) ?_
 rintro _ w3 ⟨b3, rfl, H3⟩
 have wG := V.kp (H3.f4.f4.f4.f4)
 refine iC wG (by kernel_rfl) ?_
 refine jW 15 O wG (fun _ => iV O) (qp (bg (rV (fB results90 O ?_))))
 have Ho5 := H3.f4.f4
 have Hc6 := V.Bd sS Ho5
 have HQ := Hc6.f2.f3
 rw [List.nil_append, Nat.zero_add] at HQ
 exact ⟨_, O, V.Bd sS HQ.EU.swap⟩
end
def strs (l : List ByteArray) : List Value := l.map Value.string
theorem Ui {l : List ByteArray} : ∀ x ∈ strs l, x.oneCell' = true := by
  intro x hx
  obtain ⟨e, _, rfl⟩ := List.mem_map.1 hx
  rfl
def Bg (hl : List qE) : List ByteArray := hl.map (·.1) ++ [.empty]
section
variable {P : Program} {L : List (Nat × Value)} {w0 w : World} {F : HP} {p : Nat} {hl l : List qE} {base most : Int} {v : Value}
theorem Uj {hl : List qE} {k : Nat} (hk : k < hl.length) : strs ((hl.take (k + 1)).map (·.1)) = strs ((hl.take k).map (·.1)) ++ [.string (hl.getD k default).1] := by
  unfold strs
  rw [List.take_succ_eq_append_getElem hk, List.map_append, List.map_append, List.getD_eq_getElem?_getD, List.getElem?_eq_getElem hk]; rfl
theorem JC (H : V w0 w (nR p hl base most • F)) : iU prog 91 #[.pointer (some ⟨p, 0, none⟩)] w fun v w' => ∃ q ov nv, v = .pointer (some ⟨q, 0, none⟩) ∧
  V w0 w' (dR q (.cells #[ov, nv, .int .i64 hl.length] 104 (0, 0)) • Row 9 1 ov (Bg hl).length (strs (Bg hl)) • Row 9 1 nv (Bg hl).length (strs (Bg hl)) • nR p hl base most • F) := by
 refine ji func91 ntmps91 ?_
 refine lZ O (aO ?_)
 obtain ⟨LM, sS, vC⟩ := (H).WU
 have hkl := sS.1
 refine aC (ny O O (bf 0 fQ O iZ O (dQ bT O (vC).get.2 O (aV (iE ((vC.f2).zJ) bT O) ?_))))
 refine aV (gB (zl := [.slice none 0 0, .slice none 0 0, .int .i64 0]) (pl := [(0, 1), (1, 1), (2, 1)]) [_, _, _] lK zeroValue104 O (fun w => by kernel_rfl) O (.zero (zs := [.slice none 0 0]) O (.zero (zs := [.slice none 0 0]) O (.on .nil))) O) ?_
 refine jL (jG (l := [_, _, _]) vC O O) ?_
 rintro _ w2 ⟨b2, rfl, H2⟩
 refine tJ O (lZ O (bn ?_))
 refine iR [(0, _), (3, _)] (fun (⟨k, u⟩ : Nat × Value) => [(4, .int .i64 (k : Int))]) (fun (⟨k, u⟩ : Nat × Value) W => k ≤ hl.length ∧ V w0 W (dR b2 (.cells #[u, .slice none 0 0, .int .i64 hl.length] 104 (0, 0)) • Row 9 1 u k (strs ((hl.take k).map (·.1))) • dR p (.cells #[LM, .int .i64 base, .int .i64 most] 149 (0, 0)) • WT LM hl • F)) (fun (⟨k, u⟩ : Nat × Value) => hl.length - k) ((0, .slice none 0 0)) vT sJ ⟨by omega, (H2.f3.f3.f3).jH none |>.swap⟩ ?_
 rintro ⟨k, u⟩ w3 ⟨hk, HL⟩
 dsimp only [List.cons_append, List.nil_append]
 refine aO (bM O (ny O O (bf 0 fQ O iZ O (dQ bT O (HL.f3).get.2 O (aV (iE ((HL.f4).zJ) bT O) (aV (fJ O O) (kK O (fun h1 => ?_) (fun h1 => ?_))))))))
 ·(try simp only [aH] at h1)
  have hkl2 : k < hl.length := by have h9 := h1; omega
  refine iq (aO (bn ?_))
  have Nr := HL.drew
  have qL := V.kp (Nr.f4.f4.f4.f4)
  refine xP [4, 8, 12] qL O (jc 0 O qL O (jc 1 O qL O (kN 2 O qL O (fV 3 O qL 0 lK O sizeOf102 O (jq 4 O qL (fun W hW => jV lM O ((Kp.h hW)).get.2 O) (jc 5 O qL O (kN 6 O qL O (fV 7 O qL 0 fQ O iZ O (jq 8 O qL (fun W hW => jV bT O ((Kp.h hW).f3).get.2 O) (jc 9 O qL O ?_))))))))))
  obtain ⟨abd, abe, abf, V9⟩ := Rd.vS ((Nr.f4).zJ) (by omega)
  cases V9
  refine jW 10 O qL (fun _ => gU bT jd O O (by omega)) (fV 11 O qL 0 iy O sizeOf9 O (jq 12 O qL (fun W hW => Ut (jM (fK kG O) O (Rd.atS (((Kp.h hW).f4).zJ) (by omega) (by decide))) (WV hkl2)) (mP 13 O (pO (vs := [_]) Nr lM sizeOf9 zeroValue9 O O O (by decide) (aF bK)) ?_)))
  rintro l4 w4 H4
  have kW := V.kp (H4.f5.f5.f5.f5.f5)
  refine dK kW (fun W hW => (Kp.h hW).right.f4.f4.f4.f4) ?_
  refine mP 14 O (iQ H4.f3 lM aan O O O ((H4).aP) (aF bK) (by omega) (by omega)) ?_
  rintro l5 w5 H5
  have Hd6 := H5.f2.right
  have yF := V.kp (Hd6.f4.f4.f4.f4)
  refine iC yF (by kernel_rfl) ?_
  refine kN 15 O yF O (fV 16 O yF 0 lK O sizeOf102 O ?_)
  refine eF 17 O (by kernel_rfl) (fM 0 (l' := [_, _, _]) Hd6.f2 sizeOf102 O O (by first | rfl | exact Rd.one ((Hd6).aP)) O O) ?_
  rintro _ w7 H7
  have yM := V.kp (H7.f4.f4.f4.f4)
  refine iC yM (by kernel_rfl) ?_
  refine qp (aN (bg (aC (cZ O (aV (gX O O (by omega)) (lU O (bY ?_)))))))
  refine fG ((k + 1, l5)) ?_ ?_ ?_ ?_
  ·exact sJ
  ·exact vT
  ·(try dsimp only)
   first | done | exact ⟨by omega, by rw [Uj hkl2]; exact H7⟩
  ·(try dsimp only); omega
 ·(try simp only [aH] at h1)
  refine iJ (aX (aX (dA (bg (aO ?_)))))
  obtain rfl : k = hl.length := by omega
  refine aC (mQ O O (dM O (bf 0 lK O sizeOf102 O (dQ lM O (HL).get.2 O (jL (pO (vs := [_]) HL lM sizeOf9 zeroValue9 O O O (by decide) (aF bK)) ?_)))))
  rintro l8 w8 H8
  refine jL (iQ H8.f3 lM aan O O O ((H8).aP) (aF bK) (by omega) (by omega)) ?_
  rintro l9 w9 H9
  have abA := H9.f2.right
  refine dM O (bf 0 lK O sizeOf102 O (aI (fM 0 (l' := [_, _, _]) abA.f2 sizeOf102 O O (by first | rfl | exact Rd.one ((abA).aP)) O O) ?_))
  rintro _ I9 yt
  have HX := yt
  rw [List.take_length, show strs (hl.map (·.1)) ++ [Value.string { data := #[] }] = strs (Bg hl) from by unfold Bg strs; rw [List.map_append]; rfl, show hl.length + 1 = (Bg hl).length from by simp [Bg]] at HX
  have hon := @Ui (Bg hl)
  have hol : (Bg hl).length = hl.length + 1 := by simp [Bg]
  refine sU O (ny O O (bf 0 lK O sizeOf102 O (dQ lM O (HX).get.2 O (jL (iQ (HX.jH none) lM aan O O O ((HX.f2).aP) (by assumption) (by omega) (by omega)) ?_))))
  rintro l12 w12 wz
  refine dM O (bf 1 lK O sizeOf102 O (aI (fM 1 (l' := [_, _, _]) wz.f2 sizeOf102 O O (by first | rfl | exact Rd.one ((wz).aP)) O O) ?_))
  rintro _ O8 yY
  refine sU O (iW O (fB results91 O ?_))
  have acV := yY.f5.f5
  have acW := V.Bd sS acV
  have HQ := acW.f3.f4.f4
  rw [List.nil_append, Nat.zero_add] at HQ
  exact ⟨_, _, _, O, HQ⟩
end
section
variable {w0 w : World} {F : HP} {e h : Nat} {hl : List qE} {base most : Int}
set_option maxHeartbeats 1000000 in
theorem O5 {x0 x1 x2 x3 x4 x5 x6 x7 x8 x9 x10 x11 x12 yV x14 x15 x16 x17 x18 x19 x20 x21 zM x23 x24 x25 zN x27 x28 x29 x30 x31 Bq x34 x35 x36 x37 x38 x39 x40 x41 : Value} (H : V w0 w (dR e (.cells (x0 :: x1 :: x2 :: x3 :: x4 :: x5 :: x6 :: x7 :: x8 :: x9 :: x10 :: x11 :: x12 :: yV :: x14 :: x15 :: x16 :: x17 :: x18 :: x19 :: x20 :: x21 :: zM :: x23 :: x24 :: x25 :: zN :: x27 :: x28 :: x29 :: x30 :: x31 :: .bool false :: Bq :: x34 :: x35 :: x36 :: x37 :: x38 :: x39 :: x40 :: x41 :: []).toArray 112 (0, 0)) • nR h hl base most • F)) : iU prog 48 #[.pointer (some ⟨e, 0, none⟩), .pointer (some ⟨h, 0, none⟩), .slice none 0 0] w fun v' w' => v' = .int .i64 0 ∧ V w0 w' (nR h hl base most • F) := by
  refine FQ func48 ntmps48 ?_
  refine lZ O (aO (bM O (aV (kV underlying51 O O) (iT (I8 O (fun h1 => ?_))))))
  (try simp only [aH] at h1)
  refine iq (aO (bM O (dM O (bf 32 eX O aQ O (dQ bW O (H).get.2 O (iT (I8 O (fun h2 => ?_))))))))
  (try simp only [aH] at h2)
  refine iq (bM O (dZ O func89 (OU (l := []) H (fun W _ => mM.nil W _ none 0 (by decide)) (by decide)) ?_))
  rintro _ w1 ⟨p1, rfl, H1⟩
  refine cZ O (rO O O (rO O O (lU O (tJ O (bM O (aV (dO O O) (iT (I8 O (fun h3 => ?_)))))))))
  (try simp only [aH] at h3)
  refine iq (bM O (cZ O (dZ O func90 (F6 H1.f3) ?_)))
  rintro _ w2 ⟨q2, rfl, H2⟩
  refine dM O (bf 0 eX O sizeOf51 O (aI (ED 0 H2.f4 sizeOf51) ?_))
  rintro _ w3 H3
  refine sU O (ny O O (bf 1 eX O sizeOf110 O (bf 0 lN O sizeOf100 O (aI (ED 1 H3 sizeOf100) ?_))))
  rintro _ w4 H4
  refine sU O (ny O O (bf 0 eX O sizeOf51 O (dQ underlying51 O (H4).get.2 O (dZ O func91 (JC H4.f2) ?_))))
  rintro _ w5 ⟨q5, ov5, nv5, rfl, H5⟩
  refine dM O (aV (dG lK O sizeOf104 O O (H5).get.2) (dM O (bf 1 eX O sizeOf110 O (bf 2 lN O sizeOf104 O (aI (dh 3 (l' := [_, _, _, _, _, _, _, _, _, _, _, _, _, _, _, _, _, _, _, _, _, _, _, _, _, _, _, _, _, _, _, _, _, _, _, _, _, _, _, _, _, _]) (us := [_, _, _]) H5.f5 sizeOf104 O O O (aZ (by first | rfl | exact Rd.one ((H5.f2).aP)) (aZ (by first | rfl | exact Rd.one ((H5.f3).aP)) (aF bK))) O O) ?_)))))
  rintro _ w6 H6
  refine sU O (dM O (bf 1 eX O sizeOf110 O (bf 5 lN O sizeOf9 O (aI (ED 6 H6 sizeOf9) ?_))))
  rintro _ w7 H7
  refine sU O (aV (gB (zl := [.slice none 0 0, .slice none 0 0]) (pl := [(0, 1), (1, 1)]) [_, _] underlying108 zeroValue108 O (fun w => by kernel_rfl) O (.zero (zs := [.slice none 0 0]) O (.zero (zs := [.slice none 0 0]) O .nil)) O) (dM O (bf 1 eX O sizeOf110 O (bf 6 lN O sizeOf108 O (aI (dh 7 (l' := [_, _, _, _, _, _, _, _, _, _, _, _, _, _, _, _, _, _, _, _, _, _, _, _, _, _, _, _, _, _, _, _, _, _, _, _, _, _, _, _, _, _]) (us := [_, _]) H7 sizeOf108 O O O (aF (aF bK)) O O) ?_)))))
  rintro _ w8 H8
  refine sU O (mQ O O (dM O (bf 1 eX O sizeOf110 O (bf 9 lN O aQ O (aI (ED 10 H8 aQ) ?_)))))
  rintro _ w9 H9
  refine dM O (bf 1 eX O sizeOf110 O (bf 10 lN O aj O (aI (ED 11 H9 aj) ?_)))
  rintro _ w10 sV
  refine dM O (bf 1 eX O sizeOf110 O (bf 11 lN O aQ O (aI (ED 12 sV aQ) ?_)))
  rintro _ I9 yt
  refine sU O (mQ O O (dM O (bf 25 eX O aQ O (aI (ED 25 yt aQ) ?_))))
  rintro _ w12 wz
  refine dM O (bf 26 eX O aQ O (aI (ED 26 wz aQ) ?_))
  rintro _ O8 yY
  refine dM O (bf 27 eX O aj O (aI (ED 27 yY aj) ?_))
  rintro _ MK yu
  refine sU O (mQ O O (dM O (bf 28 eX O aj O (aI (ED 28 yu aj) ?_))))
  rintro _ SX BA
  refine dM O (bf 29 eX O aj O (aI (ED 29 BA aj) ?_))
  rintro _ w16 uO
  refine dM O (bf 30 eX O aj O (aI (ED 30 uO aj) ?_))
  rintro _ Xc Dx
  refine iT (lF O (fB results48 O ?_))
  exact ⟨O, Dx.right.right.right.right.right.f2.right⟩
theorem MJ (H : V w0 w (nR h hl base most • F)) : iU prog 14 #[.pointer (some ⟨h, 0, none⟩)] w fun v' w' => ∃ e, v' = .tuple #[.pointer (some ⟨e, 0, none⟩), .int .i64 0] ∧ V w0 w' F := by
  refine ji func14 ntmps14 ?_
  refine jg (lU O (tJ O (bM O (aV (kV underlying51 O O) (iT (I8 O (fun h1 => ?_)))))))
  (try simp only [aH] at h1)
  refine iq (jg (aV (gB (zl := [.pointer none, .pointer none, .pointer none, .slice none 0 0, .slice none 0 0, .int .i64 0, .string .empty, .slice none 0 0, .slice none 0 0, .int .i64 0, .bool false, .int .i64 0, .bool false, .pointer none, .pointer none, .slice none 0 0, .slice none 0 0, .int .i64 0, .string .empty, .slice none 0 0, .slice none 0 0, .int .i64 0, .bool false, .int .i64 0, .bool false, .bool false, .bool false, .int .i64 0, .int .i64 0, .int .i64 0, .int .i64 0, .int .i64 0, .bool false, .int .i64 0, .int .i64 0, .int .i64 0, .bool false, .bool false, .bool false, .slice none 0 0, .bool false, .bool false]) (pl := [(0, 1), (1, 12), (13, 12), (25, 1), (26, 1), (27, 1), (28, 1), (29, 1), (30, 1), (31, 1), (32, 1), (33, 1), (34, 1), (35, 1), (36, 1), (37, 1), (38, 1), (39, 1), (40, 1), (41, 1)]) [_, _, _, _, _, _, _, _, _, _, _, _, _, _, _, _, _, _, _, _, _, _, _, _, _, _, _, _, _, _, _, _, _, _, _, _, _, _, _, _, _, _] eX zeroValue112 O (fun w => by kernel_rfl) O (.zero (zs := [.pointer none]) O (.zero (zs := [.pointer none, .pointer none, .slice none 0 0, .slice none 0 0, .int .i64 0, .string .empty, .slice none 0 0, .slice none 0 0, .int .i64 0, .bool false, .int .i64 0, .bool false]) O (.zero (zs := [.pointer none, .pointer none, .slice none 0 0, .slice none 0 0, .int .i64 0, .string .empty, .slice none 0 0, .slice none 0 0, .int .i64 0, .bool false, .int .i64 0, .bool false]) O (.zero (zs := [.bool false]) O (.zero (zs := [.bool false]) O (.zero (zs := [.int .i64 0]) O (.zero (zs := [.int .i64 0]) O (.zero (zs := [.int .i64 0]) O (.zero (zs := [.int .i64 0]) O (.zero (zs := [.int .i64 0]) O (.zero (zs := [.bool false]) O (.zero (zs := [.int .i64 0]) O (.zero (zs := [.int .i64 0]) O (.zero (zs := [.int .i64 0]) O (.zero (zs := [.bool false]) O (.zero (zs := [.bool false]) O (.zero (zs := [.bool false]) O (.zero (zs := [.slice none 0 0]) O (.zero (zs := [.bool false]) O (.zero (zs := [.bool false]) O .nil)))))))))))))))))))) O) (jL (jG (l := [_, _, _, _, _, _, _, _, _, _, _, _, _, _, _, _, _, _, _, _, _, _, _, _, _, _, _, _, _, _, _, _, _, _, _, _, _, _, _, _, _, _]) H O O) ?_)))
  rintro _ w1 ⟨b1, rfl, H1⟩
  refine gY O (bM O (aV (gB (zl := [.slice none 0 0, .int .i64 0]) (pl := [(0, 1), (1, 1)]) [_, _] underlying114 zeroValue114 O (fun w => by kernel_rfl) O (.zero (zs := [.slice none 0 0]) O (.zero (zs := [.int .i64 0]) O .nil)) O) (jL (jG (l := [_, _]) H1 O O) ?_)))
  rintro _ w2 ⟨b2, rfl, H2⟩
  refine dM O (bf 1 eX O sizeOf110 O (bf 1 lN O sizeOf101 O (aI (ED 2 H2.f2 sizeOf101) ?_)))
  rintro _ w3 H3
  refine sU O (cZ O (dZ O func48 (O5 H3.f2.right.f2.f2) ?_))
  rintro _ w4 ⟨rfl, H4⟩
  refine sU O (lU O (iW O (DL results14 O O ?_)))
  exact ⟨_, O, H4.right⟩
end
section
variable {w0 w : World} {F : HP} {l : List qE} {v : Value}
theorem WW (H : V w0 w F) (hv : Bl w0 F 2 v l.length (l.flatMap kS)) (hb : l.length ≤ 5864062014805) (hm : uj l ≠ 0) : iU prog 4 #[v] w fun v' w' => v' = .tuple #[.pointer none, .pointer none, .bool true] ∧ V w0 w' F := by
 refine ji func4 ntmps4 ?_
 refine jg (lU O (lU O (gY O (bM O (dZ O func11 (Jz H (by decide) hv hb hm) ?_)))))
 rintro _ w1 ⟨rfl, H1⟩
 refine cZ O (rO O O (rO O O (lU O (gY O (bM O (dZ O func12 (I4 H1 (by decide) hv hb hm) ?_))))))
 rintro _ w2 ⟨rfl, H2⟩
 refine cZ O (rO O O (rO O O (lU O (tJ O (bM O (cZ O (aV (dO O O) (iT (I8 O (fun h1 => ?_))))))))))
 (try simp only [aH] at h1)
 refine iq (aO (bM O (aV (dO O O) (kK O (fun h2 => ?_) (fun h => by exfalso; (try simp only [aH] at h); exact hm h)))))
 (try simp only [aH] at h2)
 refine jg (lU O (lU O (iW O (aK ?_))))
 refine QI (.inl O) results4 O O O ?_
 exact ⟨O, H2⟩
theorem Uk (H : V w0 w F) (hv : Bl w0 F 2 v l.length (l.flatMap kS)) (hb : l.length ≤ 5864062014805) (hm : uj l = 0) : iU prog 4 #[v] w fun v' w' => ∃ e y, v' = .tuple #[.pointer (some ⟨e, 0, none⟩), .pointer (some ⟨y, 0, none⟩), .bool true] ∧ V w0 w' (eH e (aY.new (YZ l) (Y0 l) 4096) • F) := by
 refine ji func4 ntmps4 ?_
 refine jg (lU O (lU O (gY O (bM O (dZ O func11 (IZ H (by decide) (fun W HW => hv _ (HW)) hb hm) ?_)))))
 rintro _ w1 ⟨p1, rfl, H1⟩
 refine cZ O (rO O O (rO O O (lU O (gY O (bM O (dZ O func12 (F5 H1 (by decide) (fun W HW => hv _ (HW.right)) hb hm) ?_))))))
 rintro _ w2 ⟨p2, rfl, H2⟩
 refine cZ O (rO O O (rO O O (lU O (tJ O (bM O (cZ O (aV (dO O O) (iT (I8 O (fun h1 => ?_))))))))))
 (try simp only [aH] at h1)
 refine iq (aO (bM O (aV (dO O O) (iT (I8 O (fun h2 => ?_))))))
 (try simp only [aH] at h2)
 refine iq (bM O (dZ O func13 (Iz H2.f2) ?_))
 rintro _ w3 ⟨e3, rfl, H3⟩
 refine cZ O (rO O O (rO O O (lU O (gY O (bM O (dZ O func14 (MJ H3.f3) ?_))))))
 rintro _ w4 ⟨y4, rfl, H4⟩
 refine cZ O (rO O O (rO O O (lU O (gY O (bM O (mQ O O (cZ O (aV (ig O O) (xsE O (fun h3 => ?_))))))))))
 (try simp only [aH] at h3)
 refine bU (cZ O (bU (aV (ig O O) (pW O O (xsE O (fun h4 => ?_))))))
 (try simp only [aH] at h4)
 refine bU (cZ O (bU (aV (Gw underlying28 O O) (pW O O (lU O (lU O (iW O ?_)))))))
 refine QI (.inl O) results4 O O O ?_
 exact ⟨_, _, O, H4.f2.right⟩
end
end Go.Proofs.YtimndnfpcomhlaaGreatDoor
end
