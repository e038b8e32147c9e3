import Derived.Test.YtnhhmieghbfalaaGreatZ4
import Derived.Test.YtnhhmieghbfalaaGreatZ8
import Derived.Test.YtnhhmieghbfalaaGreatZ6
import Derived.Test.YtnhhmieghbfalaaGreatZ14
import Derived.Test.YtnhhmieghbfalaaGreatZ7
import Derived.Test.YtnhhmieghbfalaaGreatZ3
import Derived.Test.YtnhhmieghbfalaaGreatZ5
set_option linter.unusedSimpArgs false
set_option linter.unusedVariables false
/- Texts of mine, joined, their names in short: HistF EOwnM RHist RWalk RLs Ref7 Ref7b BufAny. -/
section
namespace Go.Proofs.YtnhhmieghbfalaaGreat
open Go.RowKit
open _root_.Go.Proofs.Tryz
def wJ (l : List o7) : Int := if l.any (fun x => decide (16384 < x.1.size)) then 3 else if l.any (fun x => decide (x.2 < 0)) then 1 else 0
theorem Y6 {l : List o7} {k : Nat} (hk : k < l.length) : l.getD k default ∈ l := by rw [List.getD_eq_getElem?_getD, List.getElem?_eq_getElem hk]; exact List.getElem_mem hk
theorem Y7 {l : List o7} {p : o7 → Prop} (h : ∀ k, k < l.length → p (l.getD k default)) : ∀ x ∈ l, p x := by
  intro x hx
  obtain ⟨k, hk, rfl⟩ := List.getElem_of_mem hx
  have := h k hk
  rwa [List.getD_eq_getElem?_getD, List.getElem?_eq_getElem hk] at this
theorem OL {l : List o7} {k : Nat} (hk : k < l.length) (h : (16384 : Int) < (l.getD k default).1.size) : wJ l = 3 := by
  unfold wJ
  rw [if_pos (List.any_eq_true.2 ⟨_, Y6 hk, decide_eq_true (by omega)⟩)]
theorem LW {l : List o7} (h1 : ∀ k, k < l.length → ¬ (16384 : Int) < (l.getD k default).1.size) : wJ l = if l.any (fun x => decide (x.2 < 0)) then 1 else 0 := by
  unfold wJ
  rw [if_neg]
  intro c
  obtain ⟨x, hx, hd⟩ := List.any_eq_true.1 c
  have := Y7 (p := fun x => ¬ (16384 : Int) < x.1.size) h1 x hx
  simp at hd; omega
theorem SK {l : List o7} (h1 : ∀ k, k < l.length → ¬ (16384 : Int) < (l.getD k default).1.size) {k : Nat} (hk : k < l.length) (h : (l.getD k default).2 < 0) : wJ l = 1 := by
  rw [LW h1, if_pos (List.any_eq_true.2 ⟨_, Y6 hk, by simpa using h⟩)]
theorem VK {l : List o7} (h1 : ∀ k, k < l.length → ¬ (16384 : Int) < (l.getD k default).1.size) (h2 : ∀ k, k < l.length → ¬ (l.getD k default).2 < 0) : wJ l = 0 := by
  rw [LW h1, if_neg]
  intro c
  obtain ⟨x, hx, hd⟩ := List.any_eq_true.1 c
  exact Y7 (p := fun x => ¬ x.2 < 0) h2 x hx (by simpa using hd)
theorem Y8 {l : List o7} (h : wJ l = 0) : ∀ x ∈ l, adn x := by
  intro x hx
  unfold wJ at h
  split at h
  · simp at h
  · rename_i h1
    split at h
    · simp at h
    · rename_i h2
      simp only [List.any_eq_true, not_exists, not_and, decide_eq_true_eq] at h1 h2
      exact ⟨by have := h1 x hx; omega, by have := h2 x hx; omega⟩
theorem JY (l : List o7) (n : Nat) : (l.flatMap ny).drop (n * 2) = (l.drop n).flatMap ny := by
  induction l generalizing n with
  | nil => simp
  | cons x l ih =>
    cases n with
    | zero => simp
    | succ n => rw [show (n + 1) * 2 = n * 2 + 2 from by omega, List.flatMap_cons, List.drop_succ_cons, ← ih n]; simp [ny, List.drop_append]
theorem VL (l : List o7) : (l.flatMap ny).length = l.length * 2 := by induction l with
  | nil => rfl
  | cons x l ih => rw [List.flatMap_cons, List.length_append, ih, yR, List.length_cons]; omega
theorem aaG {W : World} {v : Value} {l : List o7} {n : Nat} (h : Rd W 2 v l.length (l.flatMap ny)) (hn : n ≤ l.length) : Rd W 2 (sG 2 n l.length v) (l.drop n).length ((l.drop n).flatMap ny) := by
  have h1 := h.cut hn (Nat.le_refl _)
  rw [List.take_of_length_le (by rw [JY, VL]; simp), JY] at h1
  rwa [List.length_drop]
section
variable {P : Program} {L : List (Nat × Value)} {w0 w : World} {F : HP} {p : Nat} {hl l : List o7} {base most : Int} {v : Value}
theorem P8 (H : V w0 w F) (hv : CJ w0 F 2 v l.length (l.flatMap ny)) (hb : l.length ≤ 35184372087808) : iQ prog 53 #[v] w fun v' w' => v' = .int .i64 (wJ l) ∧ V w0 w' F := by
 refine jH func53 ntmps53 ?_
 refine kW O (aO (bY O (aZ (fA (hv _ (H)) bZ O) (dn O (iF (bI ?_))))))
 refine iC [(0, _), (7, _), (8, _)] (fun (k : Nat) => [(9, .int .i64 (k : Int))]) (fun (k : Nat) W => (k ≤ l.length ∧ ∀ i, i < k → ¬ (16384 : Int) < (l.getD i default).1.size) ∧ V w0 W F) (fun (k : Nat) => l.length - k) (0) AA pY ⟨⟨by omega, fun i hi => absurd hi (by omega)⟩, H⟩ ?_
 rintro k w1 ⟨⟨hk, hsh⟩, HL⟩
 dsimp only [List.cons_append, List.nil_append]
 refine lQ (aZ (iE O O) (qJ (eP O (fun h1 => ?_) (fun h1 => ?_))))
 ·(try simp only [aK] at h1)
  refine gX (aO (bI (aO ?_)))
  have hkl : k < l.length := by omega
  refine aB ?_
  obtain ⟨bv, ov, cv, ev⟩ := Rd.qP (hv _ (HL)) (by omega)
  cases ev
  refine aZ (eG bZ jX O O (by omega)) (aZ (mV (ys := [_, _]) (hv _ (HL)) (by omega) iU O jX O (mM yR (by omega) default) O) (jW (gq (l := [_, _]) HL mg O) ?_))
  rintro _ w2 ⟨b2, rfl, H2⟩
  refine aC (dD 0 (l' := [_, _]) (us := [_, _]) H2 jX O O O (aH (aH bG)) O O) ?_
  rintro _ w3 H3
  refine Xt (Z 0 iU O qV O (dL lD O (H3).get.2 O (aZ (NU lD O) (aZ (gG O O) (kE O (fun h2 => ?_) (fun h2 => ?_))))))
  ·(try simp only [aK] at h2)
   have hkb := h2
   refine nM O (dO (aV (aV (dO (aV (gy results53 O ?_))))))
   exact ⟨by rw [OL hkl hkb], H3.right⟩
  ·(try simp only [aK] at h2)
   have hks : ¬ (16384 : Int) < (l.getD k default).1.size := by have h9 := h2; omega
   refine fV (aX (bC (aB (aZ (fZ O O (by omega)) (dn O (cO ?_))))))
   refine eX (k + 1) ?_ ?_ ?_ ?_
   ·exact pY
   ·exact AA
   ·(try dsimp only)
    first | done | exact ⟨⟨by omega, fun i hi => (show i < k ∨ i = k from by omega).elim (hsh i) (fun c => c ▸ hks)⟩, H3.right⟩
   ·(try dsimp only); omega
 ·(try simp only [aK] at h1)
  refine gY (aY (aY (dw (bC (aO (aO ?_))))))
  obtain rfl : k = l.length := by omega
  refine aB (dn O (aZ (fA (hv _ (HL)) bZ O) (dn O (iF (bI ?_)))))
  refine iC [(18, _), (19, _)] (fun (k2 : Nat) => [(20, .int .i64 (k2 : Int))]) (fun (k2 : Nat) W => (k2 ≤ l.length ∧ ∀ i, i < k2 → ¬ (l.getD i default).2 < 0) ∧ V w0 W F) (fun (k2 : Nat) => l.length - k2) (0) uj pY ⟨⟨by omega, fun i hi => absurd hi (by omega)⟩, HL⟩ ?_
  rintro k2 w4 ⟨⟨hk2, hpo⟩, HL2⟩
  dsimp only [List.cons_append, List.nil_append]
  refine lQ (aZ (iE O O) (qJ (eP O (fun h3 => ?_) (fun h3 => ?_))))
  ·(try simp only [aK] at h3)
   refine gX (aO (bI (aO ?_)))
   have hkl2 : k2 < l.length := by omega
   refine aB ?_
   obtain ⟨bv, ov, cv, ev⟩ := Rd.qP (hv _ (HL2)) (by omega)
   cases ev
   refine aZ (eG bZ jX O O (by omega)) (aZ (mV (ys := [_, _]) (hv _ (HL2)) (by omega) iU O jX O (mM yR (by omega) default) O) (jW (gq (l := [_, _]) HL2 mg O) ?_))
   rintro _ w5 ⟨b5, rfl, H5⟩
   refine aC (dD 0 (l' := [_, _]) (us := [_, _]) H5 jX O O O (aH (aH bG)) O O) ?_
   rintro _ w6 H6
   refine Xt (Z 1 iU O jU O (dL jV O (H6).get.2 O (aZ (iE O O) (kE O (fun h4 => ?_) (fun h4 => ?_)))))
   ·(try simp only [aK] at h4)
    have hkn := h4
    refine nM O (dO (aV (aV (dO (aV (gy results53 O ?_))))))
    exact ⟨by rw [SK hsh hkl2 hkn], H6.right⟩
   ·(try simp only [aK] at h4)
    have hkp : ¬ (l.getD k2 default).2 < 0 := by have h9 := h4; omega
    refine fV (aX (bC (aB (aZ (fZ O O (by omega)) (dn O (cO ?_))))))
    refine eX (k2 + 1) ?_ ?_ ?_ ?_
    ·exact pY
    ·exact uj
    ·(try dsimp only)
     first | done | exact ⟨⟨by omega, fun i hi => (show i < k2 ∨ i = k2 from by omega).elim (hpo i) (fun c => c ▸ hkp)⟩, H6.right⟩
    ·(try dsimp only); omega
  ·(try simp only [aK] at h3)
   refine gY (aY (aY (dw (bC (aO ?_)))))
   obtain rfl : k2 = l.length := by omega
   refine aB (jP O (gy results53 O ?_))
   exact ⟨by rw [VK hsh hpo], HL2⟩
def qH (hl : List o7) (most : Int) : Nat := hl.length - most.toNat
theorem Ie (H : V w0 w (eF p (.cells #[v, .int .i64 base, .int .i64 most] 106 (0, 0)) • Row 49 2 v hl.length (hl.flatMap ny) • F)) (hm : 0 ≤ most ∧ most ≤ 4096) (hb : 1 ≤ base ∧ base ≤ 2305843009213693952) (hn : hl.length ≤ 70368744177664) :
  iQ prog 54 #[.pointer (some ⟨p, 0, none⟩)] w fun _ w' => ∃ v', V w0 w' (eF p (.cells #[v', .int .i64 (base + qH hl most), .int .i64 most] 106 (0, 0)) • Row 49 2 v' (hl.drop (qH hl most)).length ((hl.drop (qH hl most)).flatMap ny) • F) := by
 refine jH func54 ntmps54 ?_
 refine aO ?_
 have Xa := H.drew
 have Aa := V.kp (Xa.f2.f2)
 refine wL [4, 10] Aa O (gK 0 O Aa O (jL 1 O Aa O (fH 2 O Aa 0 ig O mD O (fH 3 O Aa 0 iq O jJ O (iY 4 O Aa (fun W hW => jQ bZ O ((Kp.h hW)).get.2 O) (jR 5 O Aa (fun _ => fA ((Xa.f2).aG) bZ O) (gK 6 O Aa O (jL 7 O Aa O (fH 8 O Aa 0 ig O mD O (fH 9 O Aa 2 iq O ah O (iY 10 O Aa (fun W hW => jQ ay O ((Kp.h hW)).get.2 O) (jR 11 O Aa (fun _ => lJ O O (by omega)) (jR 12 O Aa (fun _ => iV O) (qN (bC (bY O (aZ (gG O O) (kE O (fun h1 => ?_) (fun h1 => ?_)))))))))))))))))))
 ·(try simp only [aK] at h1)
  have hk : (qH hl most : Int) = (hl.length : Int) - most := by have h9 := h1; unfold qH; omega
  refine bY O (lM O O (Z 0 ig O mD O (Z 0 iq O jJ O (dL bZ O (Xa).get.2 O (dn O (aZ (sH ((Xa.f2).aG) bZ jX O O O (by omega)) ?_))))))
  refine fO O func104 (F8 (hl := hl.drop (qH hl most)) Xa (fun W HW => by rw [show ((hl.length : Int) - most).toNat = qH hl most from by omega, show ((hl.length : Nat) : Int).toNat = hl.length from by omega]; exact aaG HW.f2.aG (by unfold qH; omega)) (by rw [List.length_drop]; unfold qH; omega)) ?_
  rintro u1 w1 H1
  refine dA O (Z 0 ig O mD O (Z 0 iq O jJ O (aC (dX 0 (l' := [_, _, _]) H1.f2 jJ O O (by first | rfl | exact Rd.one ((H1).aG)) O O) ?_)))
  rintro _ w2 H2
  refine iF (aB (lM O O (Z 0 ig O mD O (Z 1 iq O jU O (dL jV O (H2).get.2 O (dn O (aZ (fZ O O (by omega)) (dA O (Z 0 ig O mD O (Z 1 iq O jU O (aC (st3 1 H2 jU) ?_)))))))))))
  rintro _ w3 H3
  refine cO (kG (.inr O) results54 ?_)
  exact ⟨_, by rw [hk]; exact H3.f3.right.f2.f2⟩
 ·(try simp only [aK] at h1)
  have hk : qH hl most = 0 := by have h9 := h1; unfold qH; omega
  refine fV (kG (.inr O) results54 ?_)
  exact ⟨_, by rw [hk]; simpa using Xa⟩
theorem abo {hl l : List o7} {base most : Int} (h : HOk hl base most) (hb : hl.length + l.length ≤ 5864062014805) (hm : wJ l = 0) (hbase : base ≤ 1152921504606846976) : HOk ((hl ++ l).drop (qH (hl ++ l) most)) (base + qH (hl ++ l) most) most := by
  obtain ⟨h1, h2, h3, h4, h5, h6⟩ := h
  have hl1 : (hl ++ l).length = hl.length + l.length := List.length_append
  refine ⟨?_, ?_, ?_, ?_, h5, fun x hx => ?_⟩
  · rw [List.length_drop]; unfold qH; omega
  · omega
  · unfold qH; omega
  · rw [List.length_drop]; unfold qH; omega
  · rcases List.mem_append.1 (List.mem_of_mem_drop hx) with c | c
    · exact h6 x c
    · exact Y8 hm x c
def P9 (hl : List o7) (most : Int) (l : List o7) : List o7 := if wJ l = 0 then (hl ++ l).drop (qH (hl ++ l) most) else hl
def Nq (hl : List o7) (base most : Int) (l : List o7) : Int := if wJ l = 0 then base + qH (hl ++ l) most else base
theorem yN (H : V w0 w (iP p hl base most • F)) (hv : CJ w0 F 2 v l.length (l.flatMap ny)) (hb : hl.length + l.length ≤ 5864062014805) (hbase : base ≤ 1152921504606846976) :
  iQ prog 22 #[.pointer (some ⟨p, 0, none⟩), v] w fun v' w' => v' = .int .i64 (wJ l) ∧ V w0 w' (iP p (P9 hl most l) (Nq hl base most l) most • F) := by
 refine qQ func22 ntmps22 ?_
 refine kW O (aO (bY O (fO O func52 (Ak H) ?_)))
 rintro _ _ ⟨rfl, rfl⟩
 refine iF (vX (gX (aO (bY O (fO O func53 (P8 H (fun W HW => hv _ (HW.right)) (by omega)) ?_)))))
 rintro _ w2 ⟨rfl, H2⟩
 refine jZ O (bY O (aZ (fF O O) (kE O (fun h1 => ?_) (fun h1 => ?_))))
 ·(try simp only [aK] at h1)
  have hm := h1
  refine bY O (jP O (aV (gy results22 O ?_)))
  exact ⟨O, by unfold P9 Nq; rw [if_neg hm, if_neg hm]; exact H2⟩
 ·(try simp only [aK] at h1)
  have hm : wJ l = 0 := h1
  refine gX (aO ?_)
  obtain ⟨PO, uX, xH⟩ := (H2).hist
  have hkl := uX.1
  have hon := @F7 l
  refine aB (jw O O (dA O (Z 0 ig O mD O (Z 0 iq O jJ O (dL bZ O (xH).get.2 O (dn O (jW (dQ xH.f2 bZ VN O O O (hv _ (xH.right.right)) (by assumption) (by omega) (by omega)) ?_)))))))
  rintro l4 w4 H4
  refine dA O (Z 0 ig O mD O (Z 0 iq O jJ O (aC (dX 0 (l' := [_, _, _]) H4.f2 jJ O O (by first | rfl | exact Rd.one ((H4).aG)) O O) ?_)))
  rintro _ w5 H5
  refine pG O (fO O func54 (Ie (hl := hl ++ l) (by rw [List.flatMap_append, List.length_append]; exact H5.f2.f2) ⟨by have := uX.2.2.2.1; omega, uX.2.2.2.2.1⟩ ⟨uX.2.1, by omega⟩ (by have := uX.1; rw [List.length_append]; omega)) ?_)
  rintro _ w6 ⟨v2, H6⟩
  refine iF (nM O (gy results22 O ?_))
  exact ⟨by rw [hm], by unfold P9 Nq; rw [if_pos hm, if_pos hm]; exact V.DZ (abo uX hb hm hbase) H6⟩
theorem Nr {n : Int} (H : V w0 w F) (hn : 0 ≤ n ∧ n ≤ 4096) (hv : CJ w0 F 2 v l.length (l.flatMap ny)) (hb : l.length ≤ 5864062014805) (hm : wJ l ≠ 0) : iQ prog 24 #[.int .i64 n, v] w fun v' w' =>
    v' = .tuple #[.pointer none, .int .i64 (wJ l)] ∧ V w0 w' F := by
  refine qQ func24 ntmps24 ?_
  refine lQ (oD O (jZ O (bY O (fO O func28 (BM H (by omega)) ?_))))
  rintro _ w1 ⟨p1, rfl, H1⟩
  refine dn O (xZ O O (xZ O O (oD O (uK O (bY O (aZ (fF O O) (iF (FH O (fun h1 => ?_)))))))))
  (try simp only [aK] at h1)
  refine gX (aO (bY O (dn O (fO O func22 (yN H1 hv (by simp; omega) (by decide)) ?_))))
  rintro _ w2 ⟨rfl, H2⟩
  refine jZ O (bY O (aZ (fF O O) (kE O (fun h2 => ?_) (fun h => by exfalso; (try simp only [aK] at h); exact hm h))))
  (try simp only [aK] at h2)
  refine bY O (oD O (jP O (aV (TV results24 O O ?_))))
  exact ⟨O, H2.right⟩
theorem LX {n : Int} (H : V w0 w F) (hn : 0 ≤ n ∧ n ≤ 4096) (hv : CJ w0 F 2 v l.length (l.flatMap ny)) (hb : l.length ≤ 5864062014805) (hm : wJ l = 0) : iQ prog 24 #[.int .i64 n, v] w fun v' w' =>
    ∃ p, v' = .tuple #[.pointer (some ⟨p, 0, none⟩), .int .i64 0] ∧ V w0 w' (iP p (P9 [] n l) (Nq [] 1 n l) n • F) := by
  refine qQ func24 ntmps24 ?_
  refine lQ (oD O (jZ O (bY O (fO O func28 (BM H (by omega)) ?_))))
  rintro _ w1 ⟨p1, rfl, H1⟩
  refine dn O (xZ O O (xZ O O (oD O (uK O (bY O (aZ (fF O O) (iF (FH O (fun h1 => ?_)))))))))
  (try simp only [aK] at h1)
  refine gX (aO (bY O (dn O (fO O func22 (yN H1 hv (by simp; omega) (by decide)) ?_))))
  rintro _ w2 ⟨rfl, H2⟩
  refine jZ O (bY O (aZ (fF O O) (kE O (fun h => by exfalso; (try simp only [aK] at h); exact h hm) (fun h2 => ?_))))
  (try simp only [aK] at h2)
  refine gX (bY O (oD O (jP O (TV results24 O O ?_))))
  exact ⟨_, O, H2⟩
end
def Y9 (l : List o7) : List o7 := P9 [] 4096 l
def SL (l : List o7) : Int := Nq [] 1 4096 l
end Go.Proofs.YtnhhmieghbfalaaGreat
end
section
namespace Go.Proofs.YtnhhmieghbfalaaGreat
open Go.RowKit
section
variable {s : bP} {i j : Int} {l : List Int} {b : Bool}
theorem Za (x : iO) : (s.oH x).inn = s.inn := by unfold bP.oH; split <;> first | rfl | (split <;> rfl)
theorem LY : (s.iR i j l).inn = s.inn := by unfold bP.iR; split <;> first | exact Za _ | rfl
theorem aaH : (s.Am l).inn = s.inn := LY
theorem Zb : (s.qB i j b).inn = s.inn := by unfold bP.qB; split <;> rfl
theorem Zc : (s.sO i j b).inn = s.inn := by unfold bP.sO; split <;> first | exact LY.trans Zb | rfl
theorem Zd : (s.mW l).inn = s.inn := by
  unfold bP.mW; split
  · dsimp only; split <;> exact LY
  · rfl
theorem Xb (x : iO) : (s.oH x).base = s.base := by unfold bP.oH; split <;> first | rfl | (split <;> rfl)
theorem Ig : (s.iR i j l).base = s.base := by unfold bP.iR; split <;> first | exact Xb _ | rfl
theorem Xc : (s.qB i j b).base = s.base := by unfold bP.qB; split <;> rfl
theorem Xd : (s.sO i j b).base = s.base := by unfold bP.sO; split <;> first | exact Ig.trans Xc | rfl
theorem Xf : (s.mW l).base = s.base := by
  unfold bP.mW; split
  · dsimp only; split <;> exact Ig
  · rfl
theorem UL : s.bU.base = s.base := by unfold bP.bU; split <;> rfl
theorem UM (b : Bool) : (s.dJ b).base = s.base := by unfold bP.dJ; split <;> rfl
theorem Ze (err : Int) : (s.lS err).base = s.base := by
  unfold bP.lS
  split
  · split
    · unfold bP.kK
      dsimp only
      refine (UM _).trans ?_
      unfold bP.jF; split <;> rfl
    · rfl
  · rfl
theorem Zf {l : List o7} (h : l.length ≤ 5864062014805) : SL l ≤ 1152921504606846976 := by
  unfold SL Nq
  split
  · unfold qH; simp only [List.nil_append]; omega
  · decide
theorem SN (s : bP) (b : Bool) : (s.dJ b).put = [] := by
  unfold bP.dJ
  split
  · assumption
  · rfl
theorem Zg {t : bP} (h : t.inn = true) (err : Int) : (t.lS err).put = [] := by
  unfold bP.lS
  rw [if_pos h]
  split
  · unfold bP.kK
    dsimp only
    exact SN _ _
  · rfl
end
end Go.Proofs.YtnhhmieghbfalaaGreat
end
section
namespace Go.Proofs.YtnhhmieghbfalaaGreat
open Go.RowKit
open _root_.Go.Proofs.Tryz
theorem Ej.cut {I : Hp} {v : Value} {sz n : Nat} {xs : List Value} (hr : Ej I sz v n xs) {l h : Nat} (h1 : l ≤ h) (h2 : h ≤ n) : Ej I sz (sG sz l h v) (h - l) ((xs.drop (l * sz)).take ((h - l) * sz)) := by
  obtain ⟨hl, a, c, rfl, hc1, hc2, hc⟩ := hr
  refine ⟨?_, ER a l c sz, c - l, rfl, by omega, by omega, fun hp => ?_⟩
  · rw [List.length_take, List.length_drop, hl, ← Nat.sub_mul]
    exact Nat.min_eq_left (Nat.mul_le_mul_right _ (by omega))
  · obtain ⟨b, o, cs, e, fr, rfl, hI, hcell⟩ := hc (by omega)
    have : ¬ c = l := by omega
    refine ⟨b, o + l * sz, cs, e, fr, by simp [ER, this, wO], hI, fun j hj => ?_⟩
    have e1 : l * sz + (h - l) * sz = h * sz := by rw [← Nat.add_mul]; congr 1; omega
    have e2 : h * sz ≤ n * sz := Nat.mul_le_mul_right _ h2
    have := hcell (l * sz + j) (by omega)
    rw [Nat.add_assoc, this, List.getD_eq_getElem?_getD, List.getD_eq_getElem?_getD, List.getElem?_take, if_pos hj, List.getElem?_drop]
theorem Rd.adW {w : World} {v : Value} {sz n : Nat} {xs : List Value} (hr : Rd w sz v n xs) {i : Nat} (h : i ≤ n) : Rd w sz (sG sz i n v) (n - i) (xs.drop (i * sz)) := by
  have h1 := hr.cut h (Nat.le_refl _)
  rwa [List.take_of_length_le (by rw [List.length_drop, hr.len, ← Nat.sub_mul]; exact Nat.le_refl _)] at h1
def Zh (v : Value) (l : List o7) : HP := know (fun I => Ej I 2 v l.length (l.flatMap ny)) fun _ _ hl h => h.mono hl
def jf (p : Nat) (hl : List o7) (base most : Int) : HP := wF fun (v : Value) => fact (HOk hl base most) • eF p (.cells #[v, .int .i64 base, .int .i64 most] 163 (0, 0)) • Zh v hl
section
variable {P : Program} {L : List (Nat × Value)} {w0 w : World} {F : HP} {p : Nat} {hl l : List o7} {base most : Int} {v : Value}
theorem V.Au (H : V w0 w (Zh v l • F)) : Rd w 2 v l.length (l.flatMap ny) := let ⟨I, h, hI⟩ := H.sV; h.rd hI
theorem V.Ih (H : V w0 w (Row 49 2 v l.length (l.flatMap ny) • F)) : V w0 w (Zh v l • F) := by
  have hl := H.yg
  rcases H.uh with ⟨a, rfl, h1, h2, H1⟩ | ⟨g, o, c, cur, rfl, h2, h3, h4, h5, H1⟩
  · exact H1.yw fun I => ⟨hl, a, 0, by rw [h1], by omega, by decide, fun h => by omega⟩
  · exact H1.freeze.CV (oM (fun I hI => ⟨hl, _, c, rfl, h2, h3, fun _ => ⟨g, o, cur, _, (0, 0), rfl, hI, h5⟩⟩) F)
theorem V.aaI (H : V w0 w (Zh v l • F)) (h : 1 ≤ l.length) : V w0 w (Zh (sG 2 1 l.length v) (l.drop 1) • F) := H.CV (oM (fun I hI => by
  have h1 := hI.cut h (Nat.le_refl _)
  rw [List.take_of_length_le (by rw [JY, VL]; simp), JY] at h1
  rwa [List.length_drop]) F)
theorem V.Gw (H : V w0 w (jf p hl base most • F)) : ∃ v, HOk hl base most ∧ V w0 w (eF p (.cells #[v, .int .i64 base, .int .i64 most] 163 (0, 0)) • Zh v hl • F) := by
  obtain ⟨v, H⟩ := H.oN
  obtain ⟨h, H⟩ := H.flat.fact
  exact ⟨v, h, H.flat⟩
theorem V.Bd (h : HOk hl base most) (H : V w0 w (eF p (.cells #[v, .int .i64 base, .int .i64 most] 163 (0, 0)) • Zh v hl • F)) : V w0 w (jf p hl base most • F) :=
  V.ji v (V.deep (V.oG h H.deep))
theorem Zi {l : List o7} {k : Nat} (hk : k < l.length) : (l.flatMap ny).getD (k * 2 + 0) undef = .string (l.getD k default).1 := by
  have h := congrArg (fun x => x.getD 0 undef) (mM yR hk default)
  simp only [List.getD_eq_getElem?_getD, List.getElem?_take, List.getElem?_drop] at h ⊢
  exact h
theorem acq {l : List o7} {k : Nat} (hk : k < l.length) : (l.flatMap ny).getD (k * 2 + 1) undef = .int .i64 (l.getD k default).2 := by
  have h := congrArg (fun x => x.getD 1 undef) (mM yR hk default)
  simp only [List.getD_eq_getElem?_getD, List.getElem?_take, List.getElem?_drop] at h ⊢
  exact h
theorem Ns (H : V w0 w F) (hv : CJ w0 F 2 v l.length (l.flatMap ny)) (hb : l.length ≤ 35184372087808) : iQ prog 109 #[v] w fun v' w' => v' = .int .i64 (wJ l) ∧ V w0 w' F := by
 refine jH func109 ntmps109 ?_
 refine kW O (aO (kW O (bI ?_)))
 refine iC [(0, _)] (fun (k : Nat) => [(3, .int .i64 (k : Int))]) (fun (k : Nat) W => (k ≤ l.length ∧ ∀ i, i < k → ¬ (16384 : Int) < (l.getD i default).1.size) ∧ V w0 W F) (fun (k : Nat) => l.length - k) (0) pY pY ⟨⟨by omega, fun i hi => absurd hi (by omega)⟩, H⟩ ?_
 rintro k w1 ⟨⟨hk, hsh⟩, HL⟩
 dsimp only [List.cons_append, List.nil_append]
 refine aO (bY O (dn O (aZ (fA (hv _ (HL)) bZ O) (aZ (iE O O) (kE O (fun h1 => ?_) (fun h1 => ?_))))))
 ·(try simp only [aK] at h1)
  refine gX (aO (bI (aO ?_)))
  have hkl : k < l.length := by omega
  refine aB (jw O O ?_)
  obtain ⟨bv, ov, cv, ev⟩ := Rd.qP (hv _ (HL)) (by omega)
  cases ev
  refine aZ (eG bZ jX O O (by omega)) (Z 0 iU O qV O (aZ (Jf (jk (eH lD O) O (Rd.atS (hv _ (HL)) (by omega) (by decide))) (Zi hkl)) (aZ (NU lD O) (aZ (gG O O) (kE O (fun h2 => ?_) (fun h2 => ?_))))))
  ·(try simp only [aK] at h2)
   have hkb := h2
   refine nM O (dO (aV (aV (dO (aV (gy results109 O ?_))))))
   exact ⟨by rw [OL hkl hkb], HL⟩
  ·(try simp only [aK] at h2)
   have hks : ¬ (16384 : Int) < (l.getD k default).1.size := by have h9 := h2; omega
   refine fV (aX (bC (aB (dn O (aZ (fZ O O (by omega)) (oD O (cO ?_)))))))
   refine eX (k + 1) ?_ ?_ ?_ ?_
   ·exact pY
   ·exact pY
   ·(try dsimp only)
    first | done | exact ⟨⟨by omega, fun i hi => (show i < k ∨ i = k from by omega).elim (hsh i) (fun c => c ▸ hks)⟩, HL⟩
   ·(try dsimp only); omega
 ·(try simp only [aK] at h1)
  refine gY (aY (aY (dw (bC (aO (aO ?_))))))
  obtain rfl : k = l.length := by omega
  refine aB (jZ O (bI ?_))
  refine iC [(0, _)] (fun (k2 : Nat) => [(4, .int .i64 (k2 : Int))]) (fun (k2 : Nat) W => (k2 ≤ l.length ∧ ∀ i, i < k2 → ¬ (l.getD i default).2 < 0) ∧ V w0 W F) (fun (k2 : Nat) => l.length - k2) (0) pY pY ⟨⟨by omega, fun i hi => absurd hi (by omega)⟩, HL⟩ ?_
  rintro k2 w2 ⟨⟨hk2, hpo⟩, HL2⟩
  dsimp only [List.cons_append, List.nil_append]
  refine aO (bY O (dn O (aZ (fA (hv _ (HL2)) bZ O) (aZ (iE O O) (kE O (fun h3 => ?_) (fun h3 => ?_))))))
  ·(try simp only [aK] at h3)
   refine gX (aO (bI (aO ?_)))
   have hkl2 : k2 < l.length := by omega
   refine aB (jw O O ?_)
   obtain ⟨bv, ov, cv, ev⟩ := Rd.qP (hv _ (HL2)) (by omega)
   cases ev
   refine aZ (eG bZ jX O O (by omega)) (Z 1 iU O jU O (aZ (Jf (jk (eH jV O) O (Rd.atS (hv _ (HL2)) (by omega) (by decide))) (acq hkl2)) (aZ (iE O O) (kE O (fun h4 => ?_) (fun h4 => ?_)))))
   ·(try simp only [aK] at h4)
    have hkn := h4
    refine nM O (dO (aV (aV (dO (aV (gy results109 O ?_))))))
    exact ⟨by rw [SK hsh hkl2 hkn], HL2⟩
   ·(try simp only [aK] at h4)
    have hkp : ¬ (l.getD k2 default).2 < 0 := by have h9 := h4; omega
    refine fV (aX (bC (aB (dn O (aZ (fZ O O (by omega)) (oD O (cO ?_)))))))
    refine eX (k2 + 1) ?_ ?_ ?_ ?_
    ·exact pY
    ·exact pY
    ·(try dsimp only)
     first | done | exact ⟨⟨by omega, fun i hi => (show i < k2 ∨ i = k2 from by omega).elim (hpo i) (fun c => c ▸ hkp)⟩, HL2⟩
    ·(try dsimp only); omega
  ·(try simp only [aK] at h3)
   refine gY (aY (aY (dw (bC (aO ?_)))))
   obtain rfl : k2 = l.length := by omega
   refine aB (jP O (gy results109 O ?_))
   exact ⟨by rw [VK hsh hpo], HL2⟩
theorem Nu (H : V w0 w (eF p (.cells #[v, .int .i64 base, .int .i64 most] 163 (0, 0)) • Zh v hl • F)) (hm : 0 ≤ most ∧ most ≤ 4096) (hb : 1 ≤ base ∧ base ≤ 2305843009213693952) (hn : hl.length ≤ 70368744177664) :
  iQ prog 110 #[.pointer (some ⟨p, 0, none⟩)] w fun _ w' => ∃ v', V w0 w' (eF p (.cells #[v', .int .i64 (base + qH hl most), .int .i64 most] 163 (0, 0)) • Zh v' (hl.drop (qH hl most)) • F) := by
 refine jH func110 ntmps110 ?_
 refine bI ?_
 refine iC [(0, _)] (fun (⟨k, u⟩ : Nat × Value) => []) (fun (⟨k, u⟩ : Nat × Value) W => k ≤ qH hl most ∧ V w0 W (eF p (.cells #[u, .int .i64 (base + k), .int .i64 most] 163 (0, 0)) • Zh u (hl.drop k) • F)) (fun (⟨k, u⟩ : Nat × Value) => qH hl most - k) ((0, v)) pY (Sub.nil _) ⟨by omega, by simpa using H⟩ ?_
 rintro ⟨k, u⟩ w1 ⟨hk, HL⟩
 dsimp only [List.cons_append, List.nil_append]
 refine aO (aO ?_)
 have UN := HL.drew
 have DJ := V.kp (UN.f2.f2)
 refine wL [3, 8] DJ O (gK 0 O DJ O (jL 1 O DJ O (fH 2 O DJ 0 gU O jJ O (iY 3 O DJ (fun W hW => jQ bZ O ((Kp.h hW)).get.2 O) (jR 4 O DJ (fun _ => fA ((UN.f2).Au) bZ O) (gK 5 O DJ O (jL 6 O DJ O (fH 7 O DJ 2 gU O ah O (iY 8 O DJ (fun W hW => jQ ay O ((Kp.h hW)).get.2 O) (jR 9 O DJ (fun _ => gG O O) (qN (bC (eP O (fun h1 => ?_) (fun h1 => ?_))))))))))))))
 ·(try simp only [aK] at h1)
  have hlt : k < qH hl most := by have h9 := h1; rw [List.length_drop] at h9; unfold qH; omega
  have hdl : (hl.drop k).length = hl.length - k := List.length_drop
  have hd1 : 1 ≤ (hl.drop k).length := by rw [hdl]; unfold qH at hlt; omega
  refine gX (bI (bY O (lM O O (Z 0 gU O jJ O (dL bZ O (UN).get.2 O (aZ (sH ((UN.f2).Au) bZ jX O O O (by omega)) ?_))))))
  refine dA O (Z 0 gU O jJ O (aC (dX 0 (l' := [_, _, _]) UN jJ O O (by first | rfl | exact Rd.one (Rd.adW ((UN.f2).Au) (by omega))) O O) ?_))
  rintro _ w2 H2
  refine iF (aB (lM O O (Z 1 gU O jU O (dL jV O (H2).get.2 O (aZ (fZ O O (by omega)) (dA O (Z 1 gU O jU O (aC (st3 1 H2 jU) ?_))))))))
  rintro _ w3 H3
  have HN := (H3.f2).aaI hd1 |>.swap
  rw [List.drop_drop] at HN
  refine cO (aX ?_)
  refine eX ((k + 1, sG 2 1 (hl.drop k).length u)) ?_ ?_ ?_ ?_
  ·exact (Sub.nil _)
  ·exact pY
  ·(try dsimp only)
   first | done | exact ⟨by omega, by rw [show (base + ((k + 1 : Nat) : Int)) = base + k + 1 from by omega]; exact HN⟩
  ·(try dsimp only); omega
 ·(try simp only [aK] at h1)
  have hge : k = qH hl most := by have h9 := h1; rw [List.length_drop] at h9; unfold qH at hk ⊢; omega
  refine gY (aY (aY (dw (kG (.inr O) results110 ?_))))
  exact ⟨_, by rw [← hge]; exact UN⟩
theorem EI (H : V w0 w (jf p hl base most • F)) (hv : CJ w0 F 2 v l.length (l.flatMap ny)) (hb : hl.length + l.length ≤ 5864062014805) (hbase : base ≤ 1152921504606846976) :
  iQ prog 68 #[.pointer (some ⟨p, 0, none⟩), v] w fun v' w' => v' = .int .i64 (wJ l) ∧ V w0 w' (jf p (P9 hl most l) (Nq hl base most l) most • F) := by
 refine qQ func68 ntmps68 ?_
 refine kW O (aO (bY O (fO O func109 (Ns H (fun W HW => hv _ (HW.right)) (by omega)) ?_)))
 rintro _ w1 ⟨rfl, H1⟩
 refine jZ O (bY O (aZ (fF O O) (kE O (fun h1 => ?_) (fun h1 => ?_))))
 ·(try simp only [aK] at h1)
  have hm := h1
  refine bY O (jP O (aV (gy results68 O ?_)))
  exact ⟨O, by unfold P9 Nq; rw [if_neg hm, if_neg hm]; exact H1⟩
 ·(try simp only [aK] at h1)
  have hm : wJ l = 0 := h1
  refine gX (aO ?_)
  obtain ⟨PO, uX, xH⟩ := (H1).Gw
  have hkl := uX.1
  have hon := @F7 l
  have Qa := @F7 hl
  refine aB (jw O O (dA O (Z 0 gU O jJ O (dL bZ O (xH).get.2 O (jW (dQ (xH.gV none) bZ VN O O O ((xH.f2).Au) (by assumption) (by omega) (by omega)) ?_)))))
  rintro l3 w3 H3
  refine dn O (jW (dQ H3 bZ VN O O O (hv _ (H3.right.right.right)) (by assumption) (by omega) (by omega)) ?_)
  rintro l4 w4 H4
  refine dA O (Z 0 gU O jJ O (aC (dX 0 (l' := [_, _, _]) H4.f2 jJ O O (by first | rfl | exact Rd.one ((H4).aG)) O O) ?_))
  rintro _ w5 H5
  refine pG O (fO O func110 (Nu (hl := hl ++ l) (by have HQ := H5.f3.right.f2; rw [List.nil_append, Nat.zero_add, ← List.flatMap_append, ← List.length_append] at HQ; exact HQ.Ih.swap) ⟨by have := uX.2.2.2.1; omega, uX.2.2.2.2.1⟩ ⟨uX.2.1, by omega⟩ (by have := uX.1; rw [List.length_append]; omega)) ?_)
  rintro _ w6 ⟨v2, H6⟩
  refine iF (nM O (gy results68 O ?_))
  exact ⟨by rw [hm], by unfold P9 Nq; rw [if_pos hm, if_pos hm]; exact V.Bd (abo uX hb hm hbase) H6⟩
theorem EJ {n : Int} (H : V w0 w F) (hn : 0 ≤ n ∧ n ≤ 4096) : iQ prog 67 #[.int .i64 n] w fun v w' => ∃ p, v = .tuple #[.pointer (some ⟨p, 0, none⟩), .int .i64 0] ∧ V w0 w' (jf p [] 1 n • F) := by
  refine jH func67 ntmps67 ?_
  refine lQ (oD O (uK O (bY O (aZ (iE O O) (qG O (fun h1 => ?_) (fun h1 => ?_))))))
  · (try simp only [aK] at h1)
    exfalso; first | contradiction | omega
  · (try simp only [aK] at h1)
    refine bK (dn O (bK (aZ (gG O O) (lH O O (kE O (fun h2 => ?_) (fun h2 => ?_))))))
    · (try simp only [aK] at h2)
      exfalso; first | contradiction | omega
    · (try simp only [aK] at h2)
      refine gX (bY O ?_)
      refine aZ (fC (zl := [.slice none 0 0, .int .i64 0, .int .i64 0]) (pl := [(0, 1), (1, 1), (2, 1)]) [_, _, _] gU zeroValue163 O (fun w => by kernel_rfl) O (.zero (zs := [.slice none 0 0]) O (.on (.on .nil))) O) ?_
      refine jW (kC (l := [_, _, _]) H O O) ?_
      rintro _ w1 ⟨b1, rfl, H1⟩
      refine oD O (jP O (TV results67 O O ?_))
      exact ⟨_, O, V.Bd (v := .slice none 0 0) (hl := []) ⟨by simp, by decide, by decide, by simp; omega, by omega, by simp⟩ ((H1.gV none).Ih (l := [])).swap⟩
theorem LZ {n : Int} (H : V w0 w F) (hn : 0 ≤ n ∧ n ≤ 4096) (hv : CJ w0 F 2 v l.length (l.flatMap ny)) (hb : l.length ≤ 5864062014805) (hm : wJ l ≠ 0) : iQ prog 25 #[.int .i64 n, v] w fun v' w' =>
    v' = .tuple #[.pointer none, .int .i64 (wJ l)] ∧ V w0 w' F := by
  refine qQ func25 ntmps25 ?_
  refine lQ (oD O (jZ O (bY O (fO O func67 (EJ H (by omega)) ?_))))
  rintro _ w1 ⟨p1, rfl, H1⟩
  refine dn O (xZ O O (xZ O O (oD O (uK O (bY O (aZ (fF O O) (iF (FH O (fun h1 => ?_)))))))))
  (try simp only [aK] at h1)
  refine gX (aO (bY O (dn O (fO O func68 (EI H1 hv (by simp; omega) (by decide)) ?_))))
  rintro _ w2 ⟨rfl, H2⟩
  refine jZ O (bY O (aZ (fF O O) (kE O (fun h2 => ?_) (fun h => by exfalso; (try simp only [aK] at h); exact hm h))))
  (try simp only [aK] at h2)
  refine bY O (oD O (jP O (aV (TV results25 O O ?_))))
  exact ⟨O, H2.right⟩
theorem Jv {n : Int} (H : V w0 w F) (hn : 0 ≤ n ∧ n ≤ 4096) (hv : CJ w0 F 2 v l.length (l.flatMap ny)) (hb : l.length ≤ 5864062014805) (hm : wJ l = 0) : iQ prog 25 #[.int .i64 n, v] w fun v' w' =>
    ∃ p, v' = .tuple #[.pointer (some ⟨p, 0, none⟩), .int .i64 0] ∧ V w0 w' (jf p (P9 [] n l) (Nq [] 1 n l) n • F) := by
  refine qQ func25 ntmps25 ?_
  refine lQ (oD O (jZ O (bY O (fO O func67 (EJ H (by omega)) ?_))))
  rintro _ w1 ⟨p1, rfl, H1⟩
  refine dn O (xZ O O (xZ O O (oD O (uK O (bY O (aZ (fF O O) (iF (FH O (fun h1 => ?_)))))))))
  (try simp only [aK] at h1)
  refine gX (aO (bY O (dn O (fO O func68 (EI H1 hv (by simp; omega) (by decide)) ?_))))
  rintro _ w2 ⟨rfl, H2⟩
  refine jZ O (bY O (aZ (fF O O) (kE O (fun h => by exfalso; (try simp only [aK] at h); exact h hm) (fun h2 => ?_))))
  (try simp only [aK] at h2)
  refine gX (bY O (oD O (jP O (TV results25 O O ?_))))
  exact ⟨_, O, H2⟩
theorem Jw (H : V w0 w (jf p hl base most • F)) : iQ prog 113 #[.pointer (some ⟨p, 0, none⟩)] w fun v w' => ∃ q, v = .pointer (some ⟨q, 0, none⟩) ∧ V w0 w' (jf q hl base most • jf p hl base most • F) := by
 refine jH func113 ntmps113 ?_
 refine kW O (aO ?_)
 obtain ⟨PO, uX, xH⟩ := (H).Gw
 have hkl := uX.1
 have Qa := @F7 hl
 have Uk := xH.drew
 have qY := V.kp (Uk.f2.f2)
 refine wL [3, 8, 12] qY O (gK 0 O qY O (jL 1 O qY O (fH 2 O qY 0 gU O jJ O (iY 3 O qY (fun W hW => jQ bZ O ((Kp.h hW)).get.2 O) (gK 5 O qY O (jL 6 O qY O (fH 7 O qY 1 gU O jU O (iY 8 O qY (fun W hW => jQ jV O ((Kp.h hW)).get.2 O) (gK 9 O qY O (jL 10 O qY O (fH 11 O qY 2 gU O ah O (iY 12 O qY (fun W hW => jQ ay O ((Kp.h hW)).get.2 O) (lU 4 O (dQ (Uk.gV none) bZ VN O O O ((Uk.f2).Au) (by assumption) (by omega) (by omega)) ?_)))))))))))))
 rintro l2 w2 H2
 have EZ := V.kp (H2.f3.f3.f3)
 refine dV EZ (fun W hW => (Kp.h hW).right.f2.f2) ?_
 refine jR 13 O EZ (fun _ => fC (zl := [.slice none 0 0, .int .i64 0, .int .i64 0]) (pl := [(0, 1), (1, 1), (2, 1)]) [_, _, _] gU zeroValue163 O (fun w => by kernel_rfl) O (.one (Rd.one ((H2).aG)) (.on (.on .nil))) O) ?_
 refine lU 14 O (kC (l := [_, _, _]) H2 O O) ?_
 rintro _ w3 ⟨b3, rfl, H3⟩
 have Ei := V.kp (H3.f4.f4.f4.f4)
 refine fG Ei (by kernel_rfl) ?_
 refine jR 15 O Ei (fun _ => iV O) (qN (bC (oP (gy results113 O ?_))))
 have X0 := H3.f4.f4
 have X3 := V.Bd uX X0
 have HQ := X3.f2.f3
 rw [List.nil_append, Nat.zero_add] at HQ
 exact ⟨_, O, V.Bd uX HQ.Ih.swap⟩
end
def strs (l : List ByteArray) : List Value := l.map Value.string
theorem Ii {l : List ByteArray} : ∀ x ∈ strs l, x.oneCell' = true := by
  intro x hx
  obtain ⟨e, _, rfl⟩ := List.mem_map.1 hx
  rfl
def nN (hl : List o7) : List ByteArray := hl.map (·.1) ++ [.empty]
section
variable {P : Program} {L : List (Nat × Value)} {w0 w : World} {F : HP} {p : Nat} {hl l : List o7} {base most : Int} {v : Value}
theorem Xg {hl : List o7} {k : Nat} (hk : k < hl.length) : strs ((hl.take (k + 1)).map (·.1)) = strs ((hl.take k).map (·.1)) ++ [.string (hl.getD k default).1] := by
  unfold strs
  rw [List.take_succ_eq_append_getElem hk, List.map_append, List.map_append, List.getD_eq_getElem?_getD, List.getElem?_eq_getElem hk]; rfl
theorem Nv (H : V w0 w (jf p hl base most • F)) : iQ prog 114 #[.pointer (some ⟨p, 0, none⟩)] w fun v w' => ∃ q ov nv, v = .pointer (some ⟨q, 0, none⟩) ∧
  V w0 w' (eF q (.cells #[ov, nv, .int .i64 hl.length] 77 (0, 0)) • Row 9 1 ov (nN hl).length (strs (nN hl)) • Row 9 1 nv (nN hl).length (strs (nN hl)) • jf p hl base most • F) := by
 refine jH func114 ntmps114 ?_
 refine kW O (aO ?_)
 obtain ⟨PO, uX, xH⟩ := (H).Gw
 have hkl := uX.1
 refine aB (lM O O (Z 0 gU O jJ O (dL bZ O (xH).get.2 O (aZ (fA ((xH.f2).Au) bZ O) ?_))))
 refine aZ (fC (zl := [.slice none 0 0, .slice none 0 0, .int .i64 0]) (pl := [(0, 1), (1, 1), (2, 1)]) [_, _, _] dH zeroValue77 O (fun w => by kernel_rfl) O (.zero (zs := [.slice none 0 0]) O (.zero (zs := [.slice none 0 0]) O (.on .nil))) O) ?_
 refine jW (kC (l := [_, _, _]) xH O O) ?_
 rintro _ w2 ⟨b2, rfl, H2⟩
 refine uK O (kW O (bI ?_))
 refine iC [(0, _), (3, _)] (fun (⟨k, u⟩ : Nat × Value) => [(4, .int .i64 (k : Int))]) (fun (⟨k, u⟩ : Nat × Value) W => k ≤ hl.length ∧ V w0 W (eF b2 (.cells #[u, .slice none 0 0, .int .i64 hl.length] 77 (0, 0)) • Row 9 1 u k (strs ((hl.take k).map (·.1))) • eF p (.cells #[PO, .int .i64 base, .int .i64 most] 163 (0, 0)) • Zh PO hl • F)) (fun (⟨k, u⟩ : Nat × Value) => hl.length - k) ((0, .slice none 0 0)) uj pY ⟨by omega, (H2.f3.f3.f3).gV none |>.swap⟩ ?_
 rintro ⟨k, u⟩ w3 ⟨hk, HL⟩
 dsimp only [List.cons_append, List.nil_append]
 refine aO (bY O (lM O O (Z 0 gU O jJ O (dL bZ O (HL.f3).get.2 O (aZ (fA ((HL.f4).Au) bZ O) (aZ (iE O O) (kE O (fun h1 => ?_) (fun h1 => ?_))))))))
 ·(try simp only [aK] at h1)
  have hkl2 : k < hl.length := by have h9 := h1; omega
  refine gX (aO (bI ?_))
  have acr := HL.drew
  have Ac := V.kp (acr.f4.f4.f4.f4)
  refine wL [4, 8, 12] Ac O (gK 0 O Ac O (gK 1 O Ac O (jL 2 O Ac O (fH 3 O Ac 0 dH O kM O (iY 4 O Ac (fun W hW => jQ dW O ((Kp.h hW)).get.2 O) (gK 5 O Ac O (jL 6 O Ac O (fH 7 O Ac 0 gU O jJ O (iY 8 O Ac (fun W hW => jQ bZ O ((Kp.h hW).f3).get.2 O) (gK 9 O Ac O ?_))))))))))
  obtain ⟨adG, adH, adI, YN⟩ := Rd.qP ((acr.f4).Au) (by omega)
  cases YN
  refine jR 10 O Ac (fun _ => eG bZ jX O O (by omega)) (fH 11 O Ac 0 iU O qV O (iY 12 O Ac (fun W hW => Jf (jk (eH lD O) O (Rd.atS (((Kp.h hW).f4).Au) (by omega) (by decide))) (Zi hkl2)) (lU 13 O (jc (vs := [_]) acr dW qV zeroValue9 O O O (by decide) (aH bG)) ?_)))
  rintro l4 w4 H4
  have xR := V.kp (H4.f5.f5.f5.f5.f5)
  refine dV xR (fun W hW => (Kp.h hW).right.f4.f4.f4.f4) ?_
  refine lU 14 O (dQ H4.f3 dW Zj O O O ((H4).aG) (aH bG) (by omega) (by omega)) ?_
  rintro l5 w5 H5
  have Hd6 := H5.f2.right
  have CQ := V.kp (Hd6.f4.f4.f4.f4)
  refine fG CQ (by kernel_rfl) ?_
  refine jL 15 O CQ O (fH 16 O CQ 0 dH O kM O ?_)
  refine gJ 17 O (by kernel_rfl) (dX 0 (l' := [_, _, _]) Hd6.f2 kM O O (by first | rfl | exact Rd.one ((Hd6).aG)) O O) ?_
  rintro _ w7 H7
  have xU := V.kp (H7.f4.f4.f4.f4)
  refine fG xU (by kernel_rfl) ?_
  refine qN (aX (bC (aB (dn O (aZ (fZ O O (by omega)) (oD O (cO ?_)))))))
  refine eX ((k + 1, l5)) ?_ ?_ ?_ ?_
  ·exact pY
  ·exact uj
  ·(try dsimp only)
   first | done | exact ⟨by omega, by rw [Xg hkl2]; exact H7⟩
  ·(try dsimp only); omega
 ·(try simp only [aK] at h1)
  refine gY (aY (aY (dw (bC (aO ?_)))))
  obtain rfl : k = hl.length := by omega
  refine aB (jw O O (dA O (Z 0 dH O kM O (dL dW O (HL).get.2 O (jW (jc (vs := [_]) HL dW qV zeroValue9 O O O (by decide) (aH bG)) ?_)))))
  rintro l8 w8 H8
  refine jW (dQ H8.f3 dW Zj O O O ((H8).aG) (aH bG) (by omega) (by omega)) ?_
  rintro l9 w9 H9
  have Zk := H9.f2.right
  refine dA O (Z 0 dH O kM O (aC (dX 0 (l' := [_, _, _]) Zk.f2 kM O O (by first | rfl | exact Rd.one ((Zk).aG)) O O) ?_))
  rintro _ Hr rX
  have HX := rX
  rw [List.take_length, show strs (hl.map (·.1)) ++ [Value.string { data := #[] }] = strs (nN hl) from by unfold nN strs; rw [List.map_append]; rfl, show hl.length + 1 = (nN hl).length from by simp [nN]] at HX
  have hon := @Ii (nN hl)
  have hol : (nN hl).length = hl.length + 1 := by simp [nN]
  refine pG O (lM O O (Z 0 dH O kM O (dL dW O (HX).get.2 O (jW (dQ (HX.gV none) dW Zj O O O ((HX.f2).aG) (by assumption) (by omega) (by omega)) ?_))))
  rintro l12 w12 vN
  refine dA O (Z 1 dH O kM O (aC (dX 1 (l' := [_, _, _]) vN.f2 kM O O (by first | rfl | exact Rd.one ((vN).aG)) O O) ?_))
  rintro _ TB AB
  refine pG O (jP O (gy results114 O ?_))
  have acs := AB.f5.f5
  have acu := V.Bd uX acs
  have HQ := acu.f3.f4.f4
  rw [List.nil_append, Nat.zero_add] at HQ
  exact ⟨_, _, _, O, HQ⟩
end
end Go.Proofs.YtnhhmieghbfalaaGreat
end
section
namespace Go.Proofs.YtnhhmieghbfalaaGreat
open Go.RowKit
def tY (sz : Nat) (v : Value) (n : Nat) (xs : List Value) : HP := know (fun I => Ej I sz v n xs) fun _ _ hl h => h.mono hl
abbrev LE := Int × Value × List (Value × List fB)
def Aw (gs : List (Value × List fB)) : List (List iO) := gs.map fun g => g.2.map fB.says
def CS (A : List LE) (k : Int) : List (List iO) := ((A.find? fun x => x.1 == k).map fun x => Aw x.2.2).getD []
def yO (A : List LE) (k : Int) (u : Value) (gs : List (Value × List fB)) : List LE := A.filter (fun x => x.1 != k) ++ [(k, u, gs)]
def GlI (I : Hp) (v : Value) (gs : List (Value × List fB)) : Prop := Ej I 1 v gs.length (gs.map (·.1)) ∧ EX I gs
theorem GlI.mono {I I' : Hp} {v : Value} {gs : List (Value × List fB)} (hl : Hp.le I I') (h : GlI I v gs) : GlI I' v gs := ⟨h.1.mono hl, h.2.mono hl⟩
def glK (v : Value) (gs : List (Value × List fB)) : HP := tY 1 v gs.length (gs.map (·.1)) • qL gs
def aaJ (I : Hp) (A : List LE) : Prop := ∀ k, k < A.length → GlI I (A.getD k default).2.1 (A.getD k default).2.2
def rW (A : List LE) : HP := know (fun I => aaJ I A) fun _ _ hl h k hk => (h k hk).mono hl
def lsK (pv gv : Value) (A : List LE) : HP := qK .i64 pv (A.map (·.1)) • tY 1 gv A.length (A.map (·.2.1)) • rW A
theorem Qb (A : List LE) (k : Int) (u : Value) (gs : List (Value × List fB)) : CS (yO A k u gs) = uq (CS A) k (Aw gs) := by
  funext j
  unfold CS yO uq
  rw [List.find?_append]
  by_cases hj : j = k
  · subst hj
    rw [if_pos rfl, List.find?_eq_none.2 (by intro x hx; simp at hx; simpa using hx.2)]
    simp
  · rw [if_neg hj, List.find?_filter]
    have h1 : (fun a : LE => decide (a.1 != k ∧ (a.1 == j) = true)) = fun a : LE => a.1 == j := by
      funext a
      by_cases ha : a.1 = j
      · simp [ha, hj]
      · simp [ha]
    have h2 : (fun a : LE => (a.1 != k) && (a.1 == j)) = fun a : LE => a.1 == j := by
      funext a
      by_cases ha : a.1 = j
      · simp [ha, hj]
      · simp [ha]
    have h3 : ([(k, u, gs)] : List LE).find? (fun x => x.1 == j) = none := by
      rw [List.find?_eq_none]; intro x hx; rw [List.mem_singleton.1 hx]; simpa using Ne.symm hj
    first
      | rw [h3, Option.or_none, h2]
      | rw [h3, Option.or_none, h1]
      | (simp only [h3, Option.or_none, h2, h1])
theorem acv {A : List LE} {k : Int} {i : Nat} (hi : i < A.length) (hn : ∀ j, j < i → (A.getD j default).1 ≠ k) (he : (A.getD i default).1 = k) : CS A k = Aw (A.getD i default).2.2 := by
  induction A generalizing i with
  | nil => simp at hi
  | cons x r ih =>
    unfold CS
    rw [List.find?_cons]
    cases i with
    | zero =>
      have : x.1 = k := he
      rw [show (x.1 == k) = true from by simpa using this]; rfl
    | succ m =>
      have h0 : x.1 ≠ k := hn 0 (by omega)
      rw [show (x.1 == k) = false from by simpa using h0]
      exact ih (i := m) (by simpa using hi) (fun j hj => hn (j + 1) (by omega)) he
theorem Zl {A : List LE} {k : Int} (hn : ∀ j, j < A.length → (A.getD j default).1 ≠ k) : CS A k = [] := by
  unfold CS
  rw [List.find?_eq_none.2]
  · rfl
  · intro x hx
    obtain ⟨j, hj, rfl⟩ := List.getElem_of_mem hx
    have := hn j hj
    rw [List.getD_eq_getElem?_getD, List.getElem?_eq_getElem hj] at this
    simpa using this
theorem OM : ∀ (n : Nat) (l : List Int), l.Nodup → (∀ x ∈ l, 0 ≤ x ∧ x < n) → l.length ≤ n
  | 0, l, _, h => by
    cases l with
    | nil => simp
    | cons x r => have := h x (List.mem_cons_self ..); omega
  | n + 1, l, hn, h => by
    have h1 : (l.erase (n : Int)).length ≤ n := OM n (l.erase n) (hn.erase _) (fun x hx => by
      have hm := (List.Nodup.mem_erase_iff hn).1 hx
      have := h x hm.2
      have := hm.1
      omega)
    have h2 : l.length ≤ (l.erase (n : Int)).length + 1 := by rw [List.length_erase]; split <;> omega
    omega
theorem SQ (A : List LE) (k : Int) (u : Value) (gs : List (Value × List fB)) : (yO A k u gs).map (·.1) = (A.map (·.1)).filter (· != k) ++ [k] := by
  unfold yO
  rw [List.map_append, List.filter_map]; rfl
theorem aaK {A : List LE} {n : Int} {k : Int} {u : Value} {gs : List (Value × List fB)} (h : (A.map (·.1)).Nodup ∧ ∀ x ∈ A.map (·.1), 0 ≤ x ∧ x ≤ n) (hk : 0 ≤ k ∧ k ≤ n) :
    ((yO A k u gs).map (·.1)).Nodup ∧ ∀ x ∈ (yO A k u gs).map (·.1), 0 ≤ x ∧ x ≤ n := by
  rw [SQ]
  refine ⟨List.nodup_append.2 ⟨h.1.filter _, by simp, fun a ha b hb => ?_⟩, fun x hx => ?_⟩
  · rw [List.mem_singleton.1 hb]
    have := (List.mem_filter.1 ha).2
    simpa using this
  · rcases List.mem_append.1 hx with hx | hx
    · exact h.2 x (List.mem_filter.1 hx).1
    · rw [List.mem_singleton.1 hx]; exact hk
theorem Fp {A : List LE} {n : Int} (h : (A.map (·.1)).Nodup ∧ ∀ x ∈ A.map (·.1), 0 ≤ x ∧ x ≤ n) (hn : 0 ≤ n ∧ n ≤ 4096) : A.length ≤ 4097 := by
  have := OM (n.toNat + 1) _ h.1 (fun x hx => by have := h.2 x hx; omega)
  rw [List.length_map] at this
  omega
section
variable {w0 w : World} {F : HP} {v u pv gv : Value} {n sz k : Nat} {xs : List Value} {es : List fB} {gs : List (Value × List fB)} {A : List LE} {x : LE}
theorem V.nO (H : V w0 w (tY sz v n xs • F)) : Rd w sz v n xs := let ⟨I, h, hI⟩ := H.sV; h.rd hI
theorem V.Zm (H : V w0 w (tY sz v n xs • F)) : V w0 w (tY sz v n xs • tY sz v n xs • F) := H.uf
theorem V.Zn (H : V w0 w F) (a : Option Addr) : V w0 w (tY sz (.slice a 0 0) 0 [] • F) := H.yw fun I => ⟨by simp, a, 0, rfl, by omega, by decide, fun h => by omega⟩
theorem V.Ij {t : TypeId} (H : V w0 w (Row t sz v n xs • F)) : V w0 w (tY sz v n xs • F) := by
  have hl := H.yg
  rcases H.uh with ⟨a, rfl, h1, h2, H1⟩ | ⟨g, o, c, cur, rfl, h2, h3, h4, h5, H1⟩
  · subst h1; exact H1.yw fun I => ⟨hl, a, 0, rfl, by omega, by decide, fun h => by omega⟩
  · exact H1.freeze.CV (oM (fun I hI => ⟨hl, _, c, rfl, h2, h3, fun _ => ⟨g, o, cur, _, (0, 0), rfl, hI, h5⟩⟩) F)
theorem V.SS (H : V w0 w (glK v gs • F)) : V w0 w (tY 1 v gs.length (gs.map (·.1)) • qL gs • F) := H.flat
theorem V.VO (H : V w0 w F) (a : Option Addr) : V w0 w (glK (.slice a 0 0) [] • F) := V.deep (H.KF.Zn (sz := 1) a)
theorem V.DK (H : V w0 w (EY v gs • F)) : V w0 w (glK v gs • F) := V.deep (H.aan.Ij)
theorem V.VP {p : Int} (H : V w0 w (rW A • F)) (hk : k < A.length) (hx : A.getD k default = (p, v, gs)) : V w0 w (tY 1 v gs.length (gs.map (·.1)) • qL gs • rW A • F) := by
  have H2 : V w0 w (tY 1 (A.getD k default).2.1 (A.getD k default).2.2.length ((A.getD k default).2.2.map (·.1)) • rW A • rW A • F) := H.uf.uf.CV (oM (fun I h => (h k hk).1) _)
  have H3 : V w0 w (qL (A.getD k default).2.2 • tY 1 (A.getD k default).2.1 (A.getD k default).2.2.length ((A.getD k default).2.2.map (·.1)) • rW A • F) := H2.f2.CV (oM (fun I h => (h k hk).2) _)
  rw [hx] at H3
  exact H3.f2
theorem aaJ.set {I : Hp} {p : Int} (h : aaJ I A) (g : GlI I u gs) : aaJ I (yO A p u gs) := by
  have hm : ∀ x ∈ A, GlI I x.2.1 x.2.2 := fun x hx => by
    obtain ⟨j, hj, rfl⟩ := List.getElem_of_mem hx
    have := h j hj
    rwa [List.getD_eq_getElem?_getD, List.getElem?_eq_getElem hj] at this
  have hm2 : ∀ x ∈ yO A p u gs, GlI I x.2.1 x.2.2 := fun x hx => by
    rcases List.mem_append.1 hx with hx | hx
    · exact hm x (List.mem_filter.1 hx).1
    · rw [List.mem_singleton.1 hx]; exact g
  intro j hj
  rw [List.getD_eq_getElem?_getD, List.getElem?_eq_getElem hj]
  exact hm2 _ (List.getElem_mem hj)
theorem V.Zo {p : Int} (H : V w0 w (rW A • tY 1 u gs.length (gs.map (·.1)) • qL gs • F)) : V w0 w (rW (yO A p u gs) • F) := by
  have H1 : V w0 w (know (fun I => GlI I u gs) (fun _ _ hl h => h.mono hl) • rW A • F) := (H.f3.f3 : V w0 w (tY 1 u gs.length (gs.map (·.1)) • qL gs • rW A • F)).CV (rF (fun I h g => ⟨h, g⟩) _)
  exact H1.f2.CV (rF (fun I h g => h.set g) _)
theorem V.Zp (H : V w0 w F) : V w0 w (rW [] • F) := H.yw fun I k hk => by simp at hk
theorem V.Zq {k : IntKind} (H : V w0 w F) (a : Option Addr) : V w0 w (qK k (.slice a 0 0) [] • F) := H.yw fun I => ⟨a, 0, rfl, by simp, by decide, fun h => by simp at h⟩
end
end Go.Proofs.YtnhhmieghbfalaaGreat
end
section
namespace Go.Proofs.YtnhhmieghbfalaaGreat
open Go.RowKit
open _root_.Go.Proofs.Tryz
def oz (v : Value) (pt mk : Int) : Array Value := #[v, .int .i64 pt, .int .i64 mk]
theorem lq {v : Value} {pt mk : Int} : (oz v pt mk).size = 3 := rfl
theorem tH {v u : Value} {pt mk : Int} : (oz v pt mk).setIfInBounds 0 u = oz u pt mk := rfl
theorem Az {v : Value} {pt mk x : Int} : (oz v pt mk).setIfInBounds 1 (.int .i64 x) = oz v x mk := rfl
theorem oZ {v : Value} {pt mk x : Int} : (oz v pt mk).setIfInBounds 2 (.int .i64 x) = oz v pt x := rfl
def kN (p : Nat) (L : List Int) (pt mk : Int) : HP := wF fun (v : Value) => fact (L.length ≤ 1024 ∧ (0 ≤ pt ∧ pt ≤ L.length) ∧ (-1 ≤ mk ∧ mk ≤ L.length)) • eF p (.cells (oz v pt mk) 91 (0, 0)) • jg 21 .i32 v L
section
variable {w0 w : World} {F : HP} {p : Nat} {L : List Int} {pt mk : Int} {v : Value} {l : List Int} {i j : Int}
theorem V.ref (H : V w0 w (kN p L pt mk • F)) : ∃ (a : Option Addr) (c : Nat), L.length ≤ 1024 ∧ (0 ≤ pt ∧ pt ≤ L.length) ∧ (-1 ≤ mk ∧ mk ≤ L.length) ∧ L.length ≤ c ∧ (c : Int) ≤ 9223372036854775807 ∧
    V w0 w (eF p (.cells (oz (.slice a L.length c) pt mk) 91 (0, 0)) • jg 21 .i32 (.slice a L.length c) L • F) := by
  obtain ⟨v, H⟩ := H.oN
  obtain ⟨⟨h1, h2, h3⟩, H⟩ := H.flat.fact
  have H := H.flat
  obtain ⟨a, c, hv, hc1, hc2, _⟩ := (H.swap.aG).form
  subst hv
  exact ⟨a, c, h1, h2, h3, hc1, hc2, H⟩
theorem V.oC (h1 : L.length ≤ 1024) (h2 : 0 ≤ pt ∧ pt ≤ L.length) (h3 : -1 ≤ mk ∧ mk ≤ L.length) (H : V w0 w (eF p (.cells (oz v pt mk) 91 (0, 0)) • jg 21 .i32 v L • F)) : V w0 w (kN p L pt mk • F) :=
  V.ji v (V.deep (V.oG ⟨h1, h2, h3⟩ (V.deep H)))
theorem SV (H : V w0 w F) (hr : jY w0 F .i32 v l) (hl : l.length ≤ 1024) : iQ prog 112 #[v] w fun v' w' => ∃ p, v' = .tuple #[.pointer (some ⟨p, 0, none⟩), .int .i64 0] ∧ V w0 w' (kN p l l.length (-1) • F) := by
  obtain ⟨a, c, rfl, hc1, hc2, _⟩ := (hr w H).open
  refine jH func112 ntmps112 ?_
  refine lQ (oD O (uK O (bY O (aZ (iW aA O) (aZ (gG O O) (iF (Qs O (fun h1 => ?_))))))))
  (try simp only [aK] at h1)
  refine gX (kW O (bY O (dn O (jW (jr (l := []) (H.gV none) (hr _ H) aA sJ O O (by simp only [List.length_nil]; omega) (by simp only [List.length_nil]; omega)) ?_))))
  rintro u w1 H1
  rw [List.nil_append] at H1
  obtain ⟨au, cu, hu, _⟩ := (H1.aG).form
  subst hu
  refine jZ O (bY O (dn O (aZ (iW aA O) (aZ (jd (pl := #[(0, 1), (1, 1), (2, 1)]) (oz (.slice au l.length cu) l.length (-1)) bD zeroValue91 (fun w => by kernel_rfl) O (by kernel_rfl)) (jW (NV H1 O) ?_)))))
  rintro _ w2 ⟨b2, rfl, H2⟩
  refine oD O (jP O (TV results112 O O ?_))
  exact ⟨_, O, V.oC hl (by omega) (by omega) H2⟩
theorem rV {x : Int} {t : TypeId} {fr : Nat × Nat} {a : Option Addr} {n c : Nat} (hb : w.heap[p]? = some (.cells (oz (.slice a n c) pt mk) t fr)) :
    iQ prog 120 #[.pointer (some ⟨p, 0, none⟩), .int .i64 x] w fun v w' => v = .bool (decide (0 ≤ x ∧ x ≤ n)) ∧ w = w' := by
  refine qQ func120 ntmps120 ?_
  refine kW O (bY O (aZ (Cc O O) (qG O (fun h1 => ?_) (fun h1 => ?_))))
  · (try simp only [aK] at h1)
    refine bK (dn O (bK (dn O (bK (dA O (bK (Z 0 bD O bg O (bK (dL aA O hb O (bK (aZ (iW aA O) (bK (aZ (QA O O) (nX O O (jP O (gy results120 O ?_))))))))))))))))
    refine ⟨?_, O⟩; congr 1; first | (symm; rw [decide_eq_true_eq]; omega) | (symm; rw [decide_eq_false_iff_not]; omega) | (rw [decide_eq_decide]; omega)
  · (try simp only [aK] at h1)
    refine cZ (cZ (cZ (cZ (cZ (cZ (cZ (lH O O (jP O (gy results120 O ?_)))))))))
    refine ⟨?_, O⟩; congr 1; first | (symm; rw [decide_eq_true_eq]; omega) | (symm; rw [decide_eq_false_iff_not]; omega) | (rw [decide_eq_decide]; omega)
theorem pq {x a b n : Int} (hx : -1 ≤ x ∧ x ≤ 1024) (ha : 0 ≤ a ∧ a ≤ 1024) (hb : 0 ≤ b ∧ b ≤ 1024) (hn : 0 ≤ n ∧ n ≤ 140737488355328) : iQ prog 121 #[.int .i64 x, .int .i64 a, .int .i64 b, .int .i64 n] w fun v w' => v = .int .i64 (if b < x then x + n - (b - a) else x) ∧ w = w' := by
  refine Hg func121 ntmps121 ?_
  refine kW O (aO (bY O (dn O (aZ (gG O O) (kE O (fun h1 => ?_) (fun h1 => ?_))))))
  · (try simp only [aK] at h1)
    refine bY O (dn O (aZ (fZ O O (by omega)) (jw O O (aZ (lJ O O (by omega)) (aZ (lJ O O (by omega)) (jP O (aV (gy results121 O ?_))))))))
    exact ⟨by rw [if_pos (by omega)], O⟩
  · (try simp only [aK] at h1)
    refine gX (bY O (jP O (gy results121 O ?_)))
    exact ⟨by rw [if_neg (by omega)], O⟩
end
section
variable {w0 w : World} {F : HP} {p : Nat} {L : List Int} {pt mk x : Int} {v : Value} {l : List Int}
theorem SX {a : Option Addr} {c : Nat} (HB : V w0 w (eF p (.cells (oz (.slice a L.length c) pt mk) 91 (0, 0)) • jg 21 .i32 (.slice a L.length c) L • F)) (g1 : L.length ≤ 1024) :
  iQ prog 40 #[.pointer (some ⟨p, 0, none⟩)] w fun v' w' => ∃ u, v' = .agg (lN u pt mk) ∧ V w0 w' (jg 21 .i32 u L • eF p (.cells (oz (.slice a L.length c) pt mk) 91 (0, 0)) • jg 21 .i32 (.slice a L.length c) L • F) := by
 refine jH func40 ntmps40 ?_
 refine lQ (jW (vU HB oU) ?_)
 rintro _ w1 ⟨b1, rfl, H1⟩
 refine iF (kW O (aO ?_))
 refine qx (n := 16) [0, 1, 2, 3, 4, 5, 6, 7, 8, 9, 10, 11, 12, 13, 14, 15] (fun W => W.heap[p]? = some (.cells (oz (.slice a L.length c) pt mk) 91 (0, 0))) (by kernel_rfl) (by kernel_rfl) O ?_
 have hS0 : (fun W => W.heap[p]? = some (.cells (oz (.slice a L.length c) pt mk) 91 (0, 0))) (w1.drew) := H1.swap.get.2
 have H2d := H1.drew
 refine gK 0 O hS0 O (gK 1 O hS0 O (jL 2 O hS0 O (fH 3 O hS0 0 bD O bg O (iY 4 O hS0 (fun W hW => jQ aA O hW O) (gK 6 O hS0 O (jL 7 O hS0 O (fH 8 O hS0 1 bD O ah O (iY 9 O hS0 (fun W hW => jQ ay O hW O) (gK 10 O hS0 O (jL 11 O hS0 O (fH 12 O hS0 2 bD O ah O (iY 13 O hS0 (fun W hW => jQ ay O hW O) (lU 5 O (jr (l := []) (H2d.gV none) H2d.Jc.aG aA sJ O O (by simp only [List.length_nil]; omega) (by simp only [List.length_nil]; omega)) ?_)))))))))))))
 rintro u w2 H2
 rw [List.nil_append] at H2
 obtain ⟨au, cu, hu, _⟩ := (H2.aG).form
 subst hu
 have hS2 : (fun W => W.heap[p]? = some (.cells (oz (.slice a L.length c) pt mk) 91 (0, 0))) w2 := H2.Jc.get.2
 refine Et hS2 ?_
 refine jR 14 O hS2 (fun _ => jd (pl := #[(0, 1), (1, 1), (2, 1)]) (lN (.slice au L.length cu) pt mk) dU oU (fun w => by kernel_rfl) O (by kernel_rfl)) ?_
 refine gJ 15 O (by kernel_rfl) (dM (cs := lN (.slice au L.length cu) pt mk) H2.swap kH O O O O (N8 O)) ?_
 rintro _ w3 H3
 refine Iw (by kernel_rfl) ?_
 refine qN (bC (oP ?_))
 refine U7 (.inl O) results40 O dU O (by rw [N9]; rfl) H3.get.2 ?_
 exact ⟨_, O, H3.right⟩
theorem EK {u u' : Value} (H : V w0 w F) (g1 : jY w0 F .i32 u l) (g2 : jY w0 F .i32 u' l) : iQ prog 58 #[.agg (lN u pt mk), .agg (lN u' pt mk)] w fun v w' => v = .bool true ∧ V w0 w' F := by
 refine qQ func58 ntmps58 ?_
 refine lQ (jW (NV H O) ?_)
 rintro _ w1 ⟨b1, rfl, H1⟩
 refine jW (NV H1 O) ?_
 rintro _ w2 ⟨b2, rfl, H2⟩
 refine uK O ?_
 have HB : V w0 w2 (eF b2 (.cells (lN u' pt mk) 36 (0, 0)) • eF b1 (.cells (lN u pt mk) 36 (0, 0)) • F) := H2
 refine aB (Z 0 dU O bg O (dL aA O HB.swap.get.2 O (Z 0 dU O bg O (dL aA O HB.get.2 O (fO O func106 (QN _ _ _ l (g1 _ HB.right.right) (g2 _ HB.right.right)) ?_)))))
 rintro _ w3 ⟨rfl, hD1⟩
 have HE1 := HB.wK hD1
 refine dn O (bK (Z 1 dU O ah O (bK (dL ay O HE1.swap.get.2 O (bK (Z 1 dU O ah O (bK (dL ay O HE1.get.2 O (bK ?_)))))))))
 refine aZ (yP (je O O) (by first | (rw [decide_eq_true_eq]; omega) | (rw [decide_eq_false_iff_not]; omega) | (rw [beq_iff_eq]; omega) | (rw [beq_eq_false_iff_ne]; omega) | (rw [bne_iff_ne]; omega) | (rw [bne_eq_false_iff_eq]; omega) | (simp; done) | (simp; omega))) ?_
 refine nX O O (dn O (bK (Z 2 dU O ah O (bK (dL ay O HE1.swap.get.2 O (bK (Z 2 dU O ah O (bK (dL ay O HE1.get.2 O (bK ?_))))))))))
 refine aZ (yP (je O O) (by first | (rw [decide_eq_true_eq]; omega) | (rw [decide_eq_false_iff_not]; omega) | (rw [beq_iff_eq]; omega) | (rw [beq_eq_false_iff_ne]; omega) | (rw [bne_iff_ne]; omega) | (rw [bne_eq_false_iff_eq]; omega) | (simp; done) | (simp; omega))) ?_
 refine nX O O (jP O (gy results58 O ?_))
 exact ⟨O, HE1.right.right⟩
end
end Go.Proofs.YtnhhmieghbfalaaGreat
end
section

end
