import Derived.Test.YtnhhmieghbfalaaGreatZ4
import Derived.Test.YtnhhmieghbfalaaGreatZ5
import Derived.Test.YtnhhmieghbfalaaGreatZ3
import Derived.ProofKit
import Derived.HandedShaped
import Derived.LaidMore
import Derived.OpenShut
import Derived.Stop.Joined
import Derived.Test.YtnhhmieghbfalaaGreatRows
set_option linter.unusedSimpArgs false
set_option linter.unusedVariables false
/- Texts of mine, joined, their names in short: Ring2 Ring3 RingAny Lift Own LL Flat Undo1. -/
section
namespace Go.Proofs.YtnhhmieghbfalaaGreat
open Go.RowKit
open _root_.Go.Proofs.Tryz
def jO (E : List (List Int)) (place : Nat) (way : Int) (l : List Int) : Int × List (List Int) × Nat :=
  if way < 0 ∨ 2 < way then (1, E, place)
  else if 1024 < l.length then (3, E, place)
  else if way ≠ 0 ∧ 0 < E.length then
    if 1024 < l.length + (E.getD 0 []).length then (3, E, place)
    else (0, (if way = 1 then E.getD 0 [] ++ l else l ++ E.getD 0 []) :: E.tail, 0)
  else if way = 0 ∧ l.length = 0 then (0, E, place)
  else (0, (l :: E).take 60, 0)
theorem IC {I : Hp} {s : List Value} {h : Nat} {l : List Int} {v : Value} {E : List (List Int)} (hs : s.length = 60) (hh : h < 60) (hE : E.length ≤ 60) (h0 : 0 < E.length) (hS : QS I s h E) (hv : Eh I .i32 v l) :
    QS I (s.set h v) h (l :: E.tail) := by
  intro i hi
  have hi' : i < E.length := by simp at hi; omega
  cases i with
  | zero =>
    have e : (h + 0) % 60 = h := by omega
    rw [e, List.getD_eq_getElem?_getD, List.getElem?_set_self (by omega)]
    exact hv
  | succ i =>
    have hne : ¬ h = (h + (i + 1)) % 60 := by omega
    rw [List.getD_eq_getElem?_getD, List.getElem?_set_ne hne, ← List.getD_eq_getElem?_getD]
    have := hS (i + 1) hi'
    simpa [List.getD_eq_getElem?_getD] using this
section
variable {w0 w : World} {F : HP} {p place : Nat} {E : List (List Int)} {v : Value} {l : List Int} {way : Int}
theorem um (h0 : 0 < E.length) (x : List Int) : (x :: E.tail).length = E.length := by simp; omega
theorem MZ (H : V w0 w (fJ p E place • F)) (hr : jY w0 F .i32 v l) (hw : way < 0 ∨ 2 < way) :
    iQ prog 84 #[.pointer (some ⟨p, 0, none⟩), .int .i64 way, v] w fun v' w' => v' = .int .i64 1 ∧ V w0 w' (fJ p E place • F) := by
  obtain ⟨s, h, hs, hh, hE, hp, hm, ho, H1⟩ := H.ring
  have hb := H1.get.2
  refine ET func84 ntmps84 ?_
  refine kW O (aO (bY O (fO O func102 (lV _ hb Ag) ?_)))
  rintro _ _ ⟨rfl, rfl⟩
  refine iF (vX (gX (aO (bY O (aZ (iE O O) (qG O (fun h1 => ?_) (fun h1 => ?_)))))))
  · (try simp only [aK] at h1)
    refine cZ (cZ (nX O O (iF (Ko (nM O (aV (gy results84 O ?_)))))))
    exact ⟨O, H⟩
  · (try simp only [aK] at h1)
    refine bK (dn O (bK (aZ (gG O O) (lH O O (iF (wcA O (fun h2 => ?_)))))))
    (try simp only [aK] at h2)
    refine nM O (aV (gy results84 O ?_))
    exact ⟨O, H⟩
theorem Kz (H : V w0 w (fJ p E place • F)) (hr : jY w0 F .i32 v l) (hw : 0 ≤ way ∧ way ≤ 2) (hl : 1024 < l.length) :
    iQ prog 84 #[.pointer (some ⟨p, 0, none⟩), .int .i64 way, v] w fun v' w' => v' = .int .i64 3 ∧ V w0 w' (fJ p E place • F) := by
  obtain ⟨s, h, hs, hh, hE, hp, hm, ho, H1⟩ := H.ring
  have hb := H1.get.2
  obtain ⟨a, c, rfl, _, _, _⟩ := (hr w H.right).open
  refine ET func84 ntmps84 ?_
  refine kW O (aO (bY O (fO O func102 (lV _ hb Ag) ?_)))
  rintro _ _ ⟨rfl, rfl⟩
  refine iF (vX (gX (aO (bY O (aZ (iE O O) (Xu O (fun h1 => ?_)))))))
  (try simp only [aK] at h1)
  refine bK (dn O (bK (aZ (gG O O) (lH O O (iF (Qs O (fun h2 => ?_)))))))
  (try simp only [aK] at h2)
  refine gX (bY O (aZ (fF O O) (qG O (fun h3 => ?_) (fun h3 => ?_))))
  · (try simp only [aK] at h3)
    refine bK (dn O (bK (dA O (bK (Z 62 dh O ah O (bK (dL ay O hb (qc hs) (bK (aZ (gG O O) (nX O O (uK O (bI (bY O (aZ (iW aA O) (aZ (gG O O) (xsA O (fun h4 => ?_)))))))))))))))))
    (try simp only [aK] at h4)
    refine cZ (cZ (su (su (su (su (su (su (su (cZ (nX O O (jZ O (Ko (nM O (dO (aV (gy results84 O ?_))))))))))))))))
    exact ⟨O, H⟩
  · (try simp only [aK] at h3)
    refine cZ (cZ (cZ (cZ (cZ (lH O O (uK O (bI (bY O (aZ (iW aA O) (aZ (gG O O) (xsA O (fun h5 => ?_))))))))))))
    (try simp only [aK] at h5)
    refine cZ (cZ (su (su (su (su (su (su (su (cZ (nX O O (jZ O (Ko (nM O (dO (aV (gy results84 O ?_))))))))))))))))
    exact ⟨O, H⟩
theorem FU (H : V w0 w (fJ p E place • F)) (hr : jY w0 F .i32 v l) (hl : l.length = 0) :
    iQ prog 84 #[.pointer (some ⟨p, 0, none⟩), .int .i64 0, v] w fun v' w' => v' = .int .i64 0 ∧ V w0 w' (fJ p E place • F) := by
  obtain ⟨s, h, hs, hh, hE, hp, hm, ho, H1⟩ := H.ring
  have hb := H1.get.2
  obtain ⟨a, c, rfl, _, _, _⟩ := (hr w H.right).open
  refine ET func84 ntmps84 ?_
  refine kW O (aO (bY O (fO O func102 (lV _ hb Ag) ?_)))
  rintro _ _ ⟨rfl, rfl⟩
  refine iF (vX (gX (aO (bY O (aZ (iE O O) (Xu O (fun h1 => ?_)))))))
  (try simp only [aK] at h1)
  refine bK (dn O (bK (aZ (gG O O) (lH O O (iF (Qs O (fun h2 => ?_)))))))
  (try simp only [aK] at h2)
  refine gX (bY O (aZ (fF O O) (Xu O (fun h3 => ?_))))
  (try simp only [aK] at h3)
  refine cZ (cZ (cZ (cZ (cZ (lH O O (uK O (bI (bY O (aZ (iW aA O) (aZ (gG O O) (Xu O (fun h4 => ?_))))))))))))
  (try simp only [aK] at h4)
  refine bK (dn O (bK (dn O (cZ (cZ (cZ (cZ (cZ (cZ (cZ (bK (lH O O (lH O O (jZ O (vX (bY O (aZ (je O O) (xsA O (fun h5 => ?_)))))))))))))))))))
  (try simp only [aK] at h5)
  refine bK (dn O (bK (aZ (iW aA O) (bK (aZ (je O O) (nX O O (jZ O (wcA O (fun h6 => ?_)))))))))
  (try simp only [aK] at h6)
  refine nM O (dO (aV (gy results84 O ?_)))
  exact ⟨O, H⟩
theorem Na (H : V w0 w (fJ p E place • F)) (hr : jY w0 F .i32 v l) (hw : 0 ≤ way ∧ way ≤ 2) (hl : l.length ≤ 1024) (hj : way = 0 ∨ E.length = 0) (hn : ¬ (way = 0 ∧ l.length = 0)) :
  iQ prog 84 #[.pointer (some ⟨p, 0, none⟩), .int .i64 way, v] w fun v' w' => v' = .int .i64 0 ∧ V w0 w' (fJ p ((l :: E).take 60) 0 • F) := by
 obtain ⟨s, h, hs, hh, hE, hp, hm, ho, H1⟩ := H.ring
 have hb := H1.get.2
 obtain ⟨a, c, hv, _, _, _⟩ := (hr w H.right).open
 subst hv
 refine ET func84 ntmps84 ?_
 refine kW O (aO (bY O (fO O func102 (lV _ hb Ag) ?_)))
 rintro _ _ ⟨rfl, rfl⟩
 refine iF (vX (gX (aO (bY O (aZ (iE O O) (Xu O (fun h1 => ?_)))))))
 (try simp only [aK] at h1)
 refine bK (dn O (bK (aZ (gG O O) (lH O O (iF (Qs O (fun h2 => ?_)))))))
 (try simp only [aK] at h2)
 refine gX (bY O (aZ (fF O O) (qG O (fun h3 => ?_) (fun h3 => ?_))))
 ·(try simp only [aK] at h3)
  refine bK (dn O (bK (dA O (bK (Z 62 dh O ah O (bK (dL ay O hb (qc hs) (bK ?_))))))))
  refine aZ (NS (gG O O) (by first | (rw [decide_eq_true_eq]; omega) | (rw [decide_eq_false_iff_not]; omega) | (rw [beq_iff_eq]; omega) | (rw [beq_eq_false_iff_ne]; omega) | (rw [bne_iff_ne]; omega) | (rw [bne_eq_false_iff_eq]; omega) | (simp; done) | (simp; omega))) ?_
  refine nX O O (uK O (bI (bY O (aZ (iW aA O) (aZ (gG O O) (Xu O (fun h4 => ?_)))))))
  (try simp only [aK] at h4)
  refine bK (dn O (bK (dn O (cZ (cZ (cZ (cZ (cZ (cZ (cZ (bK (lH O O (lH O O (jZ O (vX (bY O (aZ (je O O) (qG O (fun h5 => ?_) (fun h5 => ?_)))))))))))))))))))
  ·(try simp only [aK] at h5)
   exfalso; first | contradiction | omega
  ·(try simp only [aK] at h5)
   refine cZ (cZ (cZ (lH O O (jZ O (vX (bY O (aZ (kY O) (jZ O (eP O (fun h9 => ?_) (fun h9 => ?_))))))))))
   ·(try simp only [aK] at h9)
    refine aB (jw O O (fO O func123 (Ew H hr hl) ?_))
    rintro _ Qu H7
    obtain ⟨s2, h2, hs2, hh2, hE2, hp2, hm2, ho2, H2⟩ := H7.ring
    refine cO (aX (bC (bY O (dA O (Z 63 dh O ah O (aC (fE H2 ah O O O (by rw [pF hs2]; decide)) ?_))))))
    rintro _ TD H8
    rw [show (Value.int .i64 0) = .int .i64 ((0 : Nat) : Int) from rfl, qR hs2] at H8
    refine iF (nM O (gy results84 O ?_))
    exact ⟨O, V.yx hs2 hh2 hE2 hp2 hm2 ho2 H8⟩
   ·(try simp only [aK] at h9)
    exfalso; first | contradiction | omega
 ·(try simp only [aK] at h3)
  refine cZ (cZ (cZ (cZ (cZ (lH O O (uK O (bI (bY O (aZ (iW aA O) (aZ (gG O O) (Xu O (fun h11 => ?_))))))))))))
  (try simp only [aK] at h11)
  refine bK (dn O (bK (dn O (cZ (cZ (cZ (cZ (cZ (cZ (cZ (bK (lH O O (lH O O (jZ O (vX (bY O (aZ (je O O) (qG O (fun h12 => ?_) (fun h12 => ?_)))))))))))))))))))
  ·(try simp only [aK] at h12)
   refine bK (dn O (bK (aZ (iW aA O) (bK (aZ (je O O) (nX O O (jZ O (Qs O (fun h13 => ?_)))))))))
   (try simp only [aK] at h13)
   refine bY O (aZ (kY O) (jZ O (eP O (fun h14 => ?_) (fun h14 => ?_))))
   ·(try simp only [aK] at h14)
    refine aB (jw O O (fO O func123 (Ew H hr hl) ?_))
    rintro _ w26 H7
    obtain ⟨s2, h2, hs2, hh2, hE2, hp2, hm2, ho2, H2⟩ := H7.ring
    refine cO (aX (bC (bY O (dA O (Z 63 dh O ah O (aC (fE H2 ah O O O (by rw [pF hs2]; decide)) ?_))))))
    rintro _ w27 H8
    rw [show (Value.int .i64 0) = .int .i64 ((0 : Nat) : Int) from rfl, qR hs2] at H8
    refine iF (nM O (gy results84 O ?_))
    exact ⟨O, V.yx hs2 hh2 hE2 hp2 hm2 ho2 H8⟩
   ·(try simp only [aK] at h14)
    exfalso; first | contradiction | omega
  ·(try simp only [aK] at h12)
   exfalso; first | contradiction | omega
theorem Nb (H : V w0 w (fJ p E place • F)) (hr : jY w0 F .i32 v l) (hw : 0 < way ∧ way ≤ 2) (hl : l.length ≤ 1024) (hE0 : 0 < E.length) (hj : 1024 < l.length + (E.getD 0 []).length) :
    iQ prog 84 #[.pointer (some ⟨p, 0, none⟩), .int .i64 way, v] w fun v' w' => v' = .int .i64 3 ∧ V w0 w' (fJ p E place • F) := by
  obtain ⟨s, h, hs, hh, hE, hp, hm, ho, H1⟩ := H.ring
  have hb := H1.get.2
  obtain ⟨a, c, hv, _, _, _⟩ := (hr w H.right).open
  subst hv
  have hm0 : (E.getD 0 []).length ≤ 1024 := hm _ (by rw [List.getD_eq_getElem?_getD, List.getElem?_eq_getElem hE0]; simp)
  refine ET func84 ntmps84 ?_
  refine kW O (aO (bY O (fO O func102 (lV _ hb Ag) ?_)))
  rintro _ _ ⟨rfl, rfl⟩
  refine iF (vX (gX (aO (bY O (aZ (iE O O) (Xu O (fun h1 => ?_)))))))
  (try simp only [aK] at h1)
  refine bK (dn O (bK (aZ (gG O O) (lH O O (iF (Qs O (fun h2 => ?_)))))))
  (try simp only [aK] at h2)
  refine gX (bY O (aZ (fF O O) (xsA O (fun h3 => ?_))))
  (try simp only [aK] at h3)
  refine bK (dn O (bK (dA O (bK (Z 62 dh O ah O (bK (dL ay O hb (qc hs) (bK ?_))))))))
  refine aZ (yP (gG O O) (by first | (rw [decide_eq_true_eq]; omega) | (rw [decide_eq_false_iff_not]; omega) | (rw [beq_iff_eq]; omega) | (rw [beq_eq_false_iff_ne]; omega) | (rw [bne_iff_ne]; omega) | (rw [bne_eq_false_iff_eq]; omega) | (simp; done) | (simp; omega))) ?_
  refine nX O O (uK O (bI (bY O (aZ (iW aA O) (aZ (gG O O) (Xu O (fun h4 => ?_)))))))
  (try simp only [aK] at h4)
  refine bK (dn O (bK (dn O (bK (dn O (bK (aZ (iW aA O) (bK (dn O (bK (fO O func103 (xE (k := 0) hs hh (by omega) hb) ?_)))))))))))
  rintro _ w2 ⟨rfl, hD⟩
  obtain ⟨a0, c0, e0, _, _, _⟩ := ((H1.wK hD).right.Di (i := 0) hE0).open
  rw [e0]
  refine bK (aZ (iW aA O) (bK (aZ (lJ O O (by omega)) (bK ?_))))
  refine aZ (yP (gG O O) (by first | (rw [decide_eq_true_eq]; omega) | (rw [decide_eq_false_iff_not]; omega) | (rw [beq_iff_eq]; omega) | (rw [beq_eq_false_iff_ne]; omega) | (rw [bne_iff_ne]; omega) | (rw [bne_eq_false_iff_eq]; omega) | (simp; done) | (simp; omega))) ?_
  refine bK (nX O O (lH O O (jZ O (Ko (nM O (dO (aV (gy results84 O ?_))))))))
  exact ⟨O, H.wK hD⟩
theorem KA (H : V w0 w (fJ p E place • F)) (hr : jY w0 F .i32 v l) (hw : 0 < way ∧ way ≤ 2) (hE0 : 0 < E.length) (hj : l.length + (E.getD 0 []).length ≤ 1024) :
    iQ prog 84 #[.pointer (some ⟨p, 0, none⟩), .int .i64 way, v] w fun v' w' => v' = .int .i64 0 ∧ V w0 w' (fJ p ((if way = 1 then E.getD 0 [] ++ l else l ++ E.getD 0 []) :: E.tail) 0 • F) := by
  obtain ⟨s, h, hs, hh, hE, hp, hm, ho, H⟩ := H.ring
  have hb := H.get.2
  obtain ⟨a, c, hv, _, _, _⟩ := (hr w H.right.right).open
  subst hv
  have hm0 : (E.getD 0 []).length ≤ 1024 := hm _ (by rw [List.getD_eq_getElem?_getD, List.getElem?_eq_getElem hE0]; simp)
  have age := Oa (h := h) (n := E.length) (p := place) hs (i := (h + 0) % 60) (by omega)
  refine ET func84 ntmps84 ?_
  refine kW O (aO (bY O (fO O func102 (lV _ hb Ag) ?_)))
  rintro _ _ ⟨rfl, rfl⟩
  refine iF (vX (gX (aO (bY O (aZ (iE O O) (Xu O (fun h1 => ?_)))))))
  (try simp only [aK] at h1)
  refine bK (dn O (bK (aZ (gG O O) (lH O O (iF (Qs O (fun h2 => ?_)))))))
  (try simp only [aK] at h2)
  refine gX (bY O (aZ (fF O O) (xsA O (fun h3 => ?_))))
  (try simp only [aK] at h3)
  refine bK (dn O (bK (dA O (bK (Z 62 dh O ah O (bK (dL ay O hb (qc hs) (bK ?_))))))))
  refine aZ (yP (gG O O) (by first | (rw [decide_eq_true_eq]; omega) | (rw [decide_eq_false_iff_not]; omega) | (rw [beq_iff_eq]; omega) | (rw [beq_eq_false_iff_ne]; omega) | (rw [bne_iff_ne]; omega) | (rw [bne_eq_false_iff_eq]; omega) | (simp; done) | (simp; omega))) ?_
  refine nX O O (uK O (bI (bY O (aZ (iW aA O) (aZ (gG O O) (Xu O (fun h4 => ?_)))))))
  (try simp only [aK] at h4)
  refine bK (dn O (bK (dn O (bK (dn O (bK (aZ (iW aA O) (bK (dn O (bK (fO O func103 (xE (k := 0) hs hh (by omega) hb) ?_)))))))))))
  rintro _ w2 ⟨rfl, hD⟩
  obtain ⟨a0, c0, e0, _, _, _⟩ := ((H.wK hD).right.Di (i := 0) hE0).open
  rw [e0]
  have rD := H.wK hD
  refine bK (aZ (iW aA O) (bK (aZ (lJ O O (by omega)) (bK ?_))))
  refine aZ (NS (gG O O) (by first | (rw [decide_eq_true_eq]; omega) | (rw [decide_eq_false_iff_not]; omega) | (rw [beq_iff_eq]; omega) | (rw [beq_eq_false_iff_ne]; omega) | (rw [bne_iff_ne]; omega) | (rw [bne_eq_false_iff_eq]; omega) | (simp; done) | (simp; omega))) ?_
  refine bK (nX O O (lH O O (jZ O (vX (bY O (aZ (je O O) (Xu O (fun h5 => ?_))))))))
  (try simp only [aK] at h5)
  refine cZ (cZ (cZ (lH O O (jZ O (vX (bY O (aZ (kY O) (jZ O (Qs O (fun h6 => ?_))))))))))
  (try simp only [aK] at h6)
  refine bY O (aZ (je O O) (jZ O (eP O (fun h7 => ?_) (fun h7 => ?_))))
  · (try simp only [aK] at h7)
    have hw1 : way = 1 := by omega
    refine qx (n := 14) [0, 1, 2, 3, 4, 5, 6, 7, 8, 9, 10, 11, 12, 13] (fun W => W.heap[p]? = some (.cells (dS s h E.length place) 158 (0, 0))) (by kernel_rfl) (by kernel_rfl) O ?_
    have hS0 : (fun W => W.heap[p]? = some (.cells (dS s h E.length place) 158 (0, 0))) (w2.drew) := rD.get.2
    have QT := rD.drew
    refine gK 0 O hS0 O (gK 1 O hS0 O (jL 2 O hS0 O (fH 3 O hS0 61 dh O ah O (iY 4 O hS0 (fun W hW => jQ ay O hW (AQ hs)) (gK 5 O hS0 O (gK 7 O hS0 O (jL 10 O hS0 O (fH 11 O hS0 1 dh O sizeOf156 O (lU 6 O (xB O func103 (xE (k := 0) hs hh (by omega) QT.get.2)) ?_)))))))))
    rintro _ w3 ⟨rfl, hD2⟩
    have Ci := QT.wK hD2
    have hS3 : (fun W => W.heap[p]? = some (.cells (dS s h E.length place) 158 (0, 0))) w3 := Ci.get.2
    refine Et hS3 ?_
    refine lU 8 O (U5 (vs := [s.getD ((h + 0) % 60) undef, .slice a l.length c]) Ci aT bg jS O O O (by decide) (by rw [e0]; simp [Value.oneCell'])) ?_
    rintro _ w4 ⟨b2, rfl, H4⟩
    have hS4 : (fun W => W.heap[p]? = some (.cells (dS s h E.length place) 158 (0, 0))) w4 := H4.swap.get.2
    refine Et hS4 ?_
    refine lU 9 O (xB O func124 (Df H4 (fun W HW => HW.right.right.Di (i := 0) hE0) hr.under.under.under (by omega))) ?_
    rintro u w5 H5
    have tK := H5.Jc
    have hS5 : (fun W => W.heap[p]? = some (.cells (dS s h E.length place) 158 (0, 0))) w5 := tK.get.2
    refine Et hS5 ?_
    refine jR 12 O hS5 (fun _ => zO underlying156 bg O O (by omega)) ?_
    refine gJ 13 O (by kernel_rfl) (fE tK bg O O H5.aG.one (by rw [pF hs]; omega)) ?_
    rintro _ w6 FN
    rw [show (1 + ((h : Int)).toNat * 1) = 1 + h from by omega, Ah hs hh] at FN
    have hs' : (s.set h u).length = 60 := by simp [hs]
    have ho' := Pq ho (u := u) (i := h) H5.aG.one
    refine Iw (by kernel_rfl) ?_
    refine qN (aX (bC (bY O (dA O (Z 63 dh O ah O (aC (fE FN ah O O O (by rw [pF hs']; decide)) ?_))))))
    rintro _ w7 BA
    rw [show (Value.int .i64 0) = .int .i64 ((0 : Nat) : Int) from rfl, qR hs'] at BA
    have JD := BA.swap.iZ
    refine iF (nM O (gy results84 O ?_))
    refine ⟨O, V.yx hs' hh (by rw [um hE0]; omega) (.inr O) ?_ ho' ?_⟩
    · intro e he
      rcases List.mem_cons.1 he with rfl | he
      · first | (rw [if_pos hw1, List.length_append]; omega) | (rw [if_neg (by omega), List.length_append]; omega)
      · exact hm e (List.mem_of_mem_tail he)
    · rw [um hE0]
      first | rw [if_pos hw1] | rw [if_neg (by omega)]
      exact (JD.r4.swap.CV (rF (fun I a b => IC hs hh hE hE0 b a) _)).Jc.right.swap
  · (try simp only [aK] at h7)
    have hw2 : way = 2 := by omega
    refine qx (n := 14) [0, 1, 2, 3, 4, 5, 6, 7, 8, 9, 10, 11, 12, 13] (fun W => W.heap[p]? = some (.cells (dS s h E.length place) 158 (0, 0))) (by kernel_rfl) (by kernel_rfl) O ?_
    have hS0 : (fun W => W.heap[p]? = some (.cells (dS s h E.length place) 158 (0, 0))) (w2.drew) := rD.get.2
    have H6d := rD.drew
    refine gK 0 O hS0 O (gK 1 O hS0 O (jL 2 O hS0 O (fH 3 O hS0 61 dh O ah O (iY 4 O hS0 (fun W hW => jQ ay O hW (AQ hs)) (gK 5 O hS0 O (gK 6 O hS0 O (jL 10 O hS0 O (fH 11 O hS0 1 dh O sizeOf156 O (lU 7 O (xB O func103 (xE (k := 0) hs hh (by omega) H6d.get.2)) ?_)))))))))
    rintro _ w8 ⟨rfl, hD2⟩
    have Ci := H6d.wK hD2
    have hS8 : (fun W => W.heap[p]? = some (.cells (dS s h E.length place) 158 (0, 0))) w8 := Ci.get.2
    refine Et hS8 ?_
    refine lU 8 O (U5 (vs := [.slice a l.length c, s.getD ((h + 0) % 60) undef]) Ci aT bg jS O O O (by decide) (by rw [e0]; simp [Value.oneCell'])) ?_
    rintro _ w9 ⟨b2, rfl, H9⟩
    have hS9 : (fun W => W.heap[p]? = some (.cells (dS s h E.length place) 158 (0, 0))) w9 := H9.swap.get.2
    refine Et hS9 ?_
    refine lU 9 O (xB O func124 (Df H9 hr.under.under.under (fun W HW => HW.right.right.Di (i := 0) hE0) (by omega))) ?_
    rintro u w10 rD
    have tK := rD.Jc
    have adb : (fun W => W.heap[p]? = some (.cells (dS s h E.length place) 158 (0, 0))) w10 := tK.get.2
    refine Et adb ?_
    refine jR 12 O adb (fun _ => zO underlying156 bg O O (by omega)) ?_
    refine gJ 13 O (by kernel_rfl) (fE tK bg O O rD.aG.one (by rw [pF hs]; omega)) ?_
    rintro _ Hr FN
    rw [show (1 + ((h : Int)).toNat * 1) = 1 + h from by omega, Ah hs hh] at FN
    have hs' : (s.set h u).length = 60 := by simp [hs]
    have ho' := Pq ho (u := u) (i := h) rD.aG.one
    refine Iw (by kernel_rfl) ?_
    refine qN (aX (bC (bY O (dA O (Z 63 dh O ah O (aC (fE FN ah O O O (by rw [pF hs']; decide)) ?_))))))
    rintro _ w12 BA
    rw [show (Value.int .i64 0) = .int .i64 ((0 : Nat) : Int) from rfl, qR hs'] at BA
    have JD := BA.swap.iZ
    refine iF (nM O (gy results84 O ?_))
    refine ⟨O, V.yx hs' hh (by rw [um hE0]; omega) (.inr O) ?_ ho' ?_⟩
    · intro e he
      rcases List.mem_cons.1 he with rfl | he
      · first | (rw [if_pos hw1, List.length_append]; omega) | (rw [if_neg (by omega), List.length_append]; omega)
      · exact hm e (List.mem_of_mem_tail he)
    · rw [um hE0]
      first | rw [if_pos hw1] | rw [if_neg (by omega)]
      exact (JD.r4.swap.CV (rF (fun I a b => IC hs hh hE hE0 b a) _)).Jc.right.swap
end
def Hu (m place : Nat) (n : Int) : Nat := (((place : Int) + n) % (m : Int)).toNat
theorem aai {m place : Nat} {n : Int} (h : 0 < m) : Hu m place n < m := by
  unfold Hu
  have h1 := Int.emod_nonneg ((place : Int) + n) (show (m : Int) ≠ 0 by omega)
  have h2 := Int.emod_lt_of_pos ((place : Int) + n) (show (0 : Int) < m by omega)
  omega
theorem JH (a : Int) {m : Int} (h : 0 < m) : -m < a.tmod m ∧ a.tmod m < m := by
  have h2 := Int.tmod_lt_of_pos a h
  have h3 := Int.tmod_lt_of_pos (-a) h
  rw [Int.neg_tmod] at h3
  omega
theorem Ob (a m : Int) : a.tmod m % m = a % m := by
  rw [Int.tmod_def]
  exact Int.sub_mul_emod_self_left a m (a.tdiv m)
theorem abF (m place : Nat) (n : Int) (h : 0 < m) : (((place : Int) + n.tmod m).tmod m + m).tmod m = (Hu m place n : Int) := by
  have h1 := JH ((place : Int) + n.tmod m) (show (0 : Int) < m by omega)
  have h2 := Int.emod_nonneg ((place : Int) + n) (show (m : Int) ≠ 0 by omega)
  unfold Hu
  rw [Int.toNat_of_nonneg h2, Int.tmod_eq_emod_of_nonneg (by omega), Int.add_emod_right, Ob, Int.add_emod, Ob, ← Int.add_emod]
section
variable {w0 w : World} {F : HP} {p place : Nat} {E : List (List Int)} {v : Value} {l : List Int} {way : Int}
theorem Nc (H : V w0 w (fJ p E place • F)) (hr : jY w0 F .i32 v l) :
    iQ prog 84 #[.pointer (some ⟨p, 0, none⟩), .int .i64 way, v] w fun v' w' => v' = .int .i64 (jO E place way l).1 ∧ V w0 w' (fJ p (jO E place way l).2.1 (jO E place way l).2.2 • F) := by
  unfold jO
  by_cases h1 : way < 0 ∨ 2 < way
  · simp only [h1, if_true]; exact MZ H hr h1
  · simp only [h1, if_false]
    by_cases h2 : 1024 < l.length
    · simp only [h2, if_true]; exact Kz H hr (by omega) h2
    · simp only [h2, if_false]
      by_cases h3 : way ≠ 0 ∧ 0 < E.length
      · rw [if_pos h3]
        by_cases h4 : 1024 < l.length + (E.getD 0 []).length
        · rw [if_pos h4]; exact Nb H hr (by omega) (by omega) h3.2 h4
        · rw [if_neg h4]; exact KA H hr (by omega) h3.2 (by omega)
      · rw [if_neg h3]
        by_cases h5 : way = 0 ∧ l.length = 0
        · rw [if_pos h5]; obtain ⟨rfl, h6⟩ := h5; exact FU H hr h6
        · rw [if_neg h5]; exact Na H hr (by omega) (by omega) (by omega) h5
theorem Hw {n : Int} (H : V w0 w (fJ p [] place • F)) :
    iQ prog 50 #[.pointer (some ⟨p, 0, none⟩), .int .i64 n] w fun v' w' => v' = .tuple #[.slice none 0 0, .int .i64 6] ∧ V w0 w' (fJ p [] place • F) := by
  obtain ⟨s, h, hs, hh, hE, hp, hm, ho, H1⟩ := H.ring
  have hb := H1.get.2
  refine qQ func50 ntmps50 ?_
  refine lQ (oD O (uK O (bI (bY O (fO O func102 (lV _ hb Ag) ?_)))))
  rintro _ _ ⟨rfl, rfl⟩
  refine jZ O (vX (bY O (dA O (Z 62 dh O ah O (dL ay O hb (qc hs) (aZ (je O O) (jZ O (wcA O (fun h1 => ?_)))))))))
  (try simp only [aK] at h1)
  refine lQ (oD O (jP O (dO (aV (TV results50 O O ?_)))))
  exact ⟨O, H⟩
theorem Jk {n : Int} (H : V w0 w (fJ p E place • F)) (h0 : 0 < E.length) :
  iQ prog 50 #[.pointer (some ⟨p, 0, none⟩), .int .i64 n] w fun v' w' => ∃ u, v' = .tuple #[u, .int .i64 0] ∧
   V w0 w' (jg 21 .i32 u (E.getD (Hu E.length place n) []) • fJ p E (Hu E.length place n) • F) := by
 obtain ⟨s, h, hs, hh, hE, hp, hm, ho, H⟩ := H.ring
 have hb := H.get.2
 have hlt := aai (place := place) (n := n) h0
 have aaj := abF E.length place n h0
 have hb1 := JH n (show (0 : Int) < E.length by omega)
 have hb2 := JH ((place : Int) + n.tmod E.length) (show (0 : Int) < E.length by omega)
 refine qQ func50 ntmps50 ?_
 refine lQ (oD O (uK O (bI (bY O (fO O func102 (lV _ hb Ag) ?_)))))
 rintro _ _ ⟨rfl, rfl⟩
 refine jZ O (vX (bY O (dA O (Z 62 dh O ah O (dL ay O hb (qc hs) (aZ (je O O) (jZ O (Qs O (fun h1 => ?_)))))))))
 (try simp only [aK] at h1)
 refine fV (aX (bC (aO ?_)))
 refine qx (n := 30) [0, 1, 2, 3, 4, 5, 6, 7, 8, 9, 10, 11, 12, 13, 14, 15, 16, 17, 18, 19, 20, 21, 22, 23, 24, 25, 26, 27, 28, 29] (fun W => W.heap = w.heap) (by kernel_rfl) (by kernel_rfl) O ?_
 have hS0 : (fun W => W.heap = w.heap) (w.drew) := rfl
 have H5d := H.drew
 refine gK 0 O hS0 O (gK 1 O hS0 O (jL 2 O hS0 O (fH 3 O hS0 63 dh O ah O ?_)))
 refine iY 4 O hS0 (fun W hW => jQ ay O (by rw [hW]; exact hb) (Ky hs)) ?_
 refine gK 5 O hS0 O (gK 6 O hS0 O (jL 7 O hS0 O (fH 8 O hS0 62 dh O ah O ?_)))
 refine iY 9 O hS0 (fun W hW => jQ ay O (by rw [hW]; exact hb) (qc hs)) ?_
 refine jR 10 O hS0 (fun _ => O5 O O (by omega)) (jR 11 O hS0 (fun _ => fZ O O (by omega)) (gK 12 O hS0 O (jL 13 O hS0 O (fH 14 O hS0 62 dh O ah O ?_))))
 refine iY 15 O hS0 (fun W hW => jQ ay O (by rw [hW]; exact hb) (qc hs)) ?_
 refine jR 16 O hS0 (fun _ => O5 O O (by omega)) (gK 17 O hS0 O (jL 18 O hS0 O (fH 19 O hS0 62 dh O ah O ?_)))
 refine iY 20 O hS0 (fun W hW => jQ ay O (by rw [hW]; exact hb) (qc hs)) ?_
 refine jR 21 O hS0 (fun _ => fZ O O (by omega)) (gK 22 O hS0 O (jL 23 O hS0 O (fH 24 O hS0 62 dh O ah O ?_)))
 refine iY 25 O hS0 (fun W hW => jQ ay O (by rw [hW]; exact hb) (qc hs)) ?_
 refine jR 26 O hS0 (fun _ => O5 O O (by omega)) (jL 27 O hS0 O (fH 28 O hS0 63 dh O ah O ?_))
 refine gJ 29 O (by kernel_rfl) (fE H5d ah O O O (by rw [pF hs]; decide)) ?_
 rintro _ w2 H2
 rw [aaj, qR hs] at H2
 refine Iw (by kernel_rfl) ?_
 refine qN (bC (bY O (lM O O (Z 63 dh O ah O (dL ay O H2.get.2 (Ky hs) (fO O func103 (xE hs hh (by omega) H2.get.2) ?_))))))
 rintro _ w3 ⟨rfl, hD2⟩
 have H3 := H2.wK hD2
 refine TJ (oJ (oQ O func6 O O) (rJ H3 (fun W HW => HW.right.Di (i := Hu E.length place n) hlt) (by have := hm (E.getD (Hu E.length place n) []) (by rw [List.getD_eq_getElem?_getD, List.getElem?_eq_getElem hlt]; simp); omega))) (nD O) ?_
 rintro u w4 H4
 refine oD O (jP O (TV results50 O O ?_))
 exact ⟨u, O, (V.yx hs hh hE (.inl hlt) hm ho H4.d3).swap⟩
theorem V.V9 {s : List Value} {h : Nat} (H : V w0 w (BH s h E • F)) : V w0 w (BH s h E • BH s h E • F) := H.uf
theorem Wh {s : List Value} {h n p : Nat} (ho : ∀ v ∈ s, v.oneCell' = true) : ∀ v ∈ (dS s h n p).toList, v.oneCell' = true := by
  intro v hv
  simp [dS] at hv
  rcases hv with rfl | hv | rfl | rfl | rfl <;> first | rfl | exact ho v hv
theorem Dj (H : V w0 w (fJ p E place • F)) :
    iQ prog 48 #[.pointer (some ⟨p, 0, none⟩)] w fun v' w' => ∃ q, v' = .pointer (some ⟨q, 0, none⟩) ∧ V w0 w' (fJ q E place • fJ p E place • F) := by
  obtain ⟨s, h, hs, hh, hE, hp, hm, ho, H⟩ := H.ring
  have hb := H.get.2
  refine jH func48 ntmps48 ?_
  refine kW O (aO (bY O (fO O func102 (lV _ hb Ag) ?_)))
  rintro _ _ ⟨rfl, rfl⟩
  refine iF (vX (gX (bY O (dA O (aZ (dF dh O sizeOf158 (pF hs) O hb) (jW (vU H zeroValue158) ?_))))))
  rintro _ w2 ⟨b2, rfl, H2⟩
  refine aC (dM H2 sizeOf158 (pF hs) O O O (Wh ho)) ?_
  rintro _ w3 H3
  refine iF (nM O (gy results48 O ?_))
  exact ⟨_, O, V.yx hs hh hE hp hm ho (V.yx hs hh hE hp hm ho (H3.Jc.V9.r4)).swap.Jc⟩
end
section
variable {w0 w : World} {F : HP} {p place : Nat} {E : List (List Int)}
theorem Uc (H : V w0 w (fJ p E place • F)) : E.length ≤ 60 ∧ (place < E.length ∨ place = 0) ∧ ∀ e ∈ E, e.length ≤ 1024 := by
  obtain ⟨s, h, hs, hh, hE, hpl, hE2, hs1, H1⟩ := H.ring
  exact ⟨hE, hpl, hE2⟩
theorem Jl {n : Int} (H : V w0 w (fJ p E place • F)) : iQ prog 50 #[.pointer (some ⟨p, 0, none⟩), .int .i64 n] w fun v w' => ∃ u, v = .tuple #[u, .int .i64 (if E.length = 0 then 6 else 0)] ∧
    V w0 w' (jg 21 .i32 u (if E.length = 0 then [] else E.getD (Hu E.length place n) []) • fJ p E (if E.length = 0 then place else Hu E.length place n) • F) := by
  by_cases h0 : E.length = 0
  · obtain rfl := List.eq_nil_of_length_eq_zero h0
    simp only [List.length_nil, if_true]
    exact (Hw H).mono fun v w' h => ⟨_, h.1, h.2.gV none⟩
  · simp only [if_neg h0]
    exact (Jk H (by omega)).mono fun v w' h => h
end
end Go.Proofs.YtnhhmieghbfalaaGreat
end
section
namespace Go.Proofs.YtnhhmieghbfalaaGreat
open Go.ChangeShapes Go.WideShapes Go.ChangeAt Go.RowKit
section
variable {H : Type} {enc : TypeId × Value → H} {P : Program} {W : World} {B : Nat}
def FI (B : Nat) (enc : TypeId × Value → H) (P : Program) (W : World) (t : TypeId) (cs : List Value) : Prop :=
  ∃ fuel d p, DataW.trod enc P W 0 (fun _ => true) true fuel t cs = some (d, p) ∧ ∀ n ∈ d.weights P t, n ≤ B
abbrev In (enc : TypeId × Value → H) (P : Program) (W : World) (t : TypeId) (cs : List Value) : Prop := FI reachBytes enc P W t cs
theorem FI.bool {t : TypeId} {cs : List Value} (ht : P.underlying t = some .bool) (h : FI B enc P W t cs) : ∃ b, cs = [.bool b] := by
  obtain ⟨fuel, d, p, h1, -⟩ := h; obtain ⟨b, e, -⟩ := DataW.trod_bool ht h1; exact ⟨b, e⟩
theorem FI.int {t : TypeId} {cs : List Value} {k : IntKind} (ht : P.underlying t = some (.int k)) (h : FI B enc P W t cs) : ∃ n, cs = [.int k n] ∧ (Lit.int k n).wf = true := by
  obtain ⟨fuel, d, p, h1, -⟩ := h; obtain ⟨n, e, -, hw⟩ := DataW.trod_int ht h1; exact ⟨n, e, hw⟩
theorem FI.string {t : TypeId} {cs : List Value} (ht : P.underlying t = some .string) (h : FI B enc P W t cs) : ∃ s : ByteArray, cs = [.string s] ∧ s.size ≤ B := by
  obtain ⟨fuel, d, p, h1, hw⟩ := h; obtain ⟨s, e, hx, hm⟩ := DataW.trod_string ht h1
  simp only [Prod.mk.injEq] at hx
  obtain ⟨rfl, -⟩ := hx
  have h2 := hw s.data.toList.length (by simp only [DataW.weights, List.mem_singleton])
  rw [Array.length_toList] at h2
  exact ⟨s, e, h2⟩
theorem Jm {ts : List TypeId} {ds : List (DataW H)} {j : Nat} {t : TypeId} {d : DataW H} (ht : ts[j]? = some t) (hd : ds[j]? = some d) (h : ∀ n ∈ DataW.weightsEach P ts ds, n ≤ B) : ∀ n ∈ d.weights P t, n ≤ B :=
  fun n hn => h n (DataW.weights_mem_each ht hd n hn)
theorem KC {e : TypeId} {ds : List (DataW H)} {d : DataW H} (hd : d ∈ ds) (h : ∀ n ∈ DataW.weightsAll P e ds, n ≤ B) : ∀ n ∈ d.weights P e, n ≤ B := by
  intro n hn
  induction ds with
  | nil => cases hd
  | cons x r ih =>
    simp only [DataW.weightsAll, List.mem_append] at h
    rcases List.mem_cons.1 hd with rfl | hd
    · exact h n (.inl hn)
    · exact ih hd fun n hn => h n (.inr hn)
theorem FI.struct {t : TypeId} {fs : Array Field} {cs : List Value} (ht : P.underlying t = some (.struct fs)) (h : FI B enc P W t cs) :
    cs.length = P.cellsOf t ∧ ∀ (i : Nat) (f : Field), fs[i]? = some f → FI B enc P W f.type ((cs.drop f.offset).take (P.cellsOf f.type)) := by
  obtain ⟨fuel, d, p, h1, hw⟩ := h
  obtain ⟨xs, n, -, hx, hl, hl2, hf⟩ := DataW.trod_struct ht h1
  simp only [Prod.mk.injEq] at hx
  obtain ⟨rfl, -⟩ := hx
  refine ⟨hl, fun i f hi => ?_⟩
  have hlt : i < xs.length := by rw [hl2]; exact (Array.getElem?_eq_some_iff.1 hi).1
  refine ⟨n, xs[i].1, xs[i].2, by rw [hf i f hi, List.getElem?_eq_getElem hlt], ?_⟩
  simp only [DataW.weights, ht] at hw
  exact Jm (ts := fs.toList.map (·.type)) (ds := xs.map (·.1)) (j := i) (by simp [hi]) (by simp [List.getElem?_eq_getElem hlt]) hw
theorem FI.slice {t e : TypeId} {cs : List Value} (ht : P.underlying t = some (.slice e)) (hz : 0 < P.cellsOf e) (h : FI B enc P W t cs) :
    ∃ v n xs, cs = [v] ∧ Rd W (P.cellsOf e) v n xs ∧ n * P.bytesOf e ≤ B ∧ ∀ k, k < n → FI B enc P W e ((xs.drop (k * P.cellsOf e)).take (P.cellsOf e)) := by
  obtain ⟨fuel, d, p, h1, hw⟩ := h
  rcases DataW.trod_slice ht h1 with ⟨rfl, hx⟩ | ⟨a, len, cap, elems, rest, n, -, rfl, hx, -, hl, hm, hel, hget, -⟩
  · exact ⟨_, 0, [], rfl, ⟨by simp, none, 0, rfl, by simp, by decide, fun h => absurd h (by decide)⟩, by simp, fun k hk => absurd hk (by omega)⟩
  simp only [Prod.mk.injEq] at hx
  obtain ⟨rfl, -⟩ := hx
  simp only [DataW.weights, ht, List.mem_cons, List.mem_append] at hw
  have h2 := hw _ (.inl rfl)
  simp only [List.length_map] at h2
  have key : ∀ i, i < len → ∃ cs, W.cells? 0 (a.add (i * P.cellsOf e)) (P.cellsOf e) = some cs ∧ FI B enc P W e cs := by
    intro i hi
    have h3 := hget i hi
    have hi2 : i < elems.length := by omega
    rw [List.getElem?_eq_getElem hi2] at h3
    obtain ⟨cs, e1, e2⟩ := Option.bind_eq_some_iff.1 h3
    exact ⟨cs, e1, n, elems[i].1, elems[i].2, e2, fun m hm => KC (ds := elems.map (·.1)) (List.mem_map.2 ⟨elems[i], List.getElem_mem hi2, rfl⟩) (fun n hn => hw n (.inr (.inl hn))) m hm⟩
  obtain ⟨C, hC⟩ : ∃ C : Nat → List Value, ∀ i, i < len → W.cells? 0 (a.add (i * P.cellsOf e)) (P.cellsOf e) = some (C i) ∧ FI B enc P W e (C i) := by
    classical
    exact ⟨fun i => if hi : i < len then Classical.choose (key i hi) else [], fun i hi => by simp only [dif_pos hi]; exact Classical.choose_spec (key i hi)⟩
  have spot : 0 < len → a.spot = none := by
    intro hp
    obtain ⟨-, -, hc⟩ := World.cells?_some (hC 0 hp).1
    have h3 := hc 0 hz
    have hlen := (World.cells?_some (hC 0 hp).1).2.1
    rw [List.getElem?_eq_getElem (by omega)] at h3
    simp only [Nat.zero_mul, Addr.add, if_true] at h3
    unfold World.cell? at h3
    cases hs : a.spot with
    | none => rfl
    | some q => rw [hs] at h3; split at h3 <;> simp at h3
  let xs : List Value := (List.range len).flatMap C
  have hlC : ∀ i, i < len → (C i).length = P.cellsOf e := fun i hi => (World.cells?_some (hC i hi).1).2.1
  have XT : ∀ m, m ≤ len → ((List.range m).flatMap C).length = m * P.cellsOf e := by
    intro m hm
    induction m with
    | zero => simp
    | succ m ih => rw [List.range_succ, List.flatMap_append, List.length_append, ih (by omega)]; simp [hlC m (by omega), Nat.succ_mul]
  have hcut : ∀ k, k < len → ((xs.drop (k * P.cellsOf e)).take (P.cellsOf e)) = C k := by
    intro k hk
    show ((((List.range len).flatMap C).drop (k * P.cellsOf e)).take (P.cellsOf e)) = C k
    have e1 : List.range len = List.range k ++ [k] ++ (List.range (len - (k + 1))).map ((k + 1) + ·) := by
      have := @List.range_add (k + 1) (len - (k + 1))
      rw [show k + 1 + (len - (k + 1)) = len by omega] at this
      rw [this, List.range_succ]
    have hk1 := XT k (by omega)
    have hck := hlC k hk
    rw [e1, List.flatMap_append, List.flatMap_append, List.append_assoc]
    rw [List.drop_append, hk1]
    simp [hk1, List.take_append, hck]
  refine ⟨_, len, xs, rfl, ⟨XT len (Nat.le_refl _), some a, cap, rfl, hl, by unfold maxLen at hm; omega, fun hp => ⟨a.block, a.off, ?_, fun j hj => ?_⟩⟩, ?_, fun k hk => ?_⟩
  · have := spot hp; cases a; simp_all
  · have hk : j / P.cellsOf e < len := Nat.div_lt_of_lt_mul (by rw [Nat.mul_comm]; exact hj)
    have hr : j % P.cellsOf e < P.cellsOf e := Nat.mod_lt _ hz
    have hc := (World.cells?_some (hC _ hk).1).2.2 _ hr
    have e0 : a = ⟨a.block, a.off, none⟩ := by have := spot hp; cases a; simp_all
    have ej : j / P.cellsOf e * P.cellsOf e + j % P.cellsOf e = j := by rw [Nat.mul_comm]; exact Nat.div_add_mod ..
    rw [e0, wO, wO, Nat.add_assoc, ej] at hc
    rw [hc, ← hcut _ hk, List.getElem?_take_of_lt hr, List.getElem?_drop, ej, List.getD_eq_getElem?_getD, List.getElem?_eq_getElem (by show j < ((List.range len).flatMap C).length; rw [XT len (Nat.le_refl _)]; exact hj)]
    rfl
  · have : len * P.bytesOf e ≤ (elems.length + rest.length) * P.bytesOf e := Nat.mul_le_mul_right _ (by omega)
    omega
  · rw [hcut k hk]; exact (hC k hk).2
theorem FI.ints {t e : TypeId} {k : IntKind} {cs : List Value} (ht : P.underlying t = some (.slice e)) (he : P.underlying e = some (.int k)) (hc : P.cellsOf e = 1) (h : FI B enc P W t cs) :
    ∃ v l, cs = [v] ∧ oL W k v l ∧ l.length * P.bytesOf e ≤ B ∧ ∀ n ∈ l, (Lit.int k n).wf = true := by
  obtain ⟨v, n, xs, e1, h1, h2, h3⟩ := h.slice ht (by omega)
  rw [hc] at h1 h3
  have hx : ∀ i, i < n → ∃ m, xs[i]? = some (.int k m) ∧ (Lit.int k m).wf = true := by
    intro i hi
    obtain ⟨m, e2, hw⟩ := (h3 i hi).int he
    have hl := h1.len
    refine ⟨m, ?_, hw⟩
    have := congrArg (fun l => l[0]?) e2
    simpa [List.getElem?_take, List.getElem?_drop] using this
  let l := xs.map fun | .int _ m => m | _ => 0
  have hl : l.length = n := by simp only [l, List.length_map]; have := h1.len; omega
  have hxs : xs = l.map (Value.int k) := by
    apply List.ext_getElem?
    intro i
    by_cases hi : i < n
    · obtain ⟨m, e2, -⟩ := hx i hi
      simp [l, e2]
    · have : xs.length ≤ i := by have := h1.len; omega
      simp [l, List.getElem?_eq_none this]
  refine ⟨v, l, e1, by rw [oL, hl, ← hxs]; exact h1, by rw [hl]; exact h2, fun m hm => ?_⟩
  obtain ⟨i, hi⟩ := List.getElem?_of_mem hm
  have hi2 : i < n := by have := (List.getElem?_eq_some_iff.1 hi).1; omega
  obtain ⟨m', e2, hw⟩ := hx i hi2
  simp only [l, List.getElem?_map, e2, Option.map_some, Option.some.injEq] at hi
  subst hi
  exact hw
theorem aak {α : Type _} [Inhabited α] {n : Nat} {p : Nat → α → Prop} (h : ∀ k, k < n → ∃ l, p k l) (d : α) : ∃ ls : List α, ls.length = n ∧ ∀ k, k < n → p k (ls.getD k d) := by
  induction n with
  | zero => exact ⟨[], rfl, fun k hk => absurd hk (by omega)⟩
  | succ n ih =>
    obtain ⟨ls, h1, h2⟩ := ih fun k hk => h k (by omega)
    obtain ⟨l, hl⟩ := h n (by omega)
    refine ⟨ls ++ [l], by simp [h1], fun k hk => ?_⟩
    by_cases hkn : k < n
    · rw [List.getD_eq_getElem?_getD, List.getElem?_append_left (by omega), ← List.getD_eq_getElem?_getD]; exact h2 k hkn
    · obtain rfl : k = n := by omega
      rw [List.getD_eq_getElem?_getD, List.getElem?_append_right (by omega), h1, Nat.sub_self]; exact hl
theorem FI.row {t e q : TypeId} {k : IntKind} {cs : List Value} (ht : P.underlying t = some (.slice e)) (he : P.underlying e = some (.slice q)) (hq : P.underlying q = some (.int k)) (ce : P.cellsOf e = 1) (cq : P.cellsOf q = 1) (h : FI B enc P W t cs) :
    ∃ (v : Value) (vs : List Value) (ls : List (List Int)), cs = [v] ∧ Rd W 1 v ls.length vs ∧ ls.length * P.bytesOf e ≤ B ∧ ∀ j, j < ls.length → oL W k (vs.getD j undef) (ls.getD j []) ∧ (ls.getD j []).length * P.bytesOf q ≤ B ∧ ∀ n ∈ ls.getD j [], (Lit.int k n).wf = true := by
  obtain ⟨v, n, vs, e1, h1, h2, h3⟩ := h.slice ht (by omega)
  rw [ce] at h1 h3
  obtain ⟨ls, rfl, hls⟩ := aak (n := n) (p := fun j l => oL W k (vs.getD j undef) l ∧ l.length * P.bytesOf q ≤ B ∧ ∀ n ∈ l, (Lit.int k n).wf = true) (fun j hj => by
    obtain ⟨u, l, e3, g4, hb4, hw⟩ := (h3 j hj).ints he hq cq
    obtain rfl : vs.getD j undef = u := by
      have := congrArg (fun l => l[0]?) e3
      simp [List.getElem?_drop] at this
      rw [List.getD_eq_getElem?_getD, this]; rfl
    exact ⟨l, g4, hb4, hw⟩) []
  exact ⟨v, vs, ls, e1, h1, h2, hls⟩
theorem IE : ∀ {ts : List TypeId} {vs : List Value} {ds : List (DataW H)} {p : List MemPlace}, DataW.TrodAll enc P W 0 (fun _ => true) true ts vs ds p → (∀ n ∈ DataW.weightsEach P ts ds, n ≤ B) →
    vs.length = ts.length ∧ ds.length = ts.length ∧ ∀ (j : Nat) t v, ts[j]? = some t → vs[j]? = some v → FI B enc P W t v.cells.toList
  | [], _, _, _, h, _ => by obtain ⟨rfl, rfl, rfl⟩ := trodAll_nil h; simp
  | t :: ts, _, _, _, h, hw => by
    obtain ⟨v, vs1, d, ds1, a, b, rfl, rfl, rfl, ⟨fuel, h1⟩, h2⟩ := trodAll_cons h
    simp only [DataW.weightsEach, List.mem_append] at hw
    obtain ⟨i1, i2, i3⟩ := IE h2 fun n hn => hw n (.inr hn)
    refine ⟨by simp [i1], by simp [i2], fun j t' v' ht hv => ?_⟩
    cases j with
    | zero =>
      simp only [List.getElem?_cons_zero, Option.some.injEq] at ht hv
      subst ht; subst hv
      exact ⟨fuel, d, a, h1, fun n hn => hw n (.inl hn)⟩
    | succ j => exact i3 j t' v' (by simpa using ht) (by simpa using hv)
def CO (B : Nat) (enc : TypeId × Value → H) (P : Program) (W : World) : List TypeId → List Value → Prop
  | [], [] => True
  | t :: ts, v :: vs => (∃ base, Value.okWide P W .any base t v) ∧ FI B enc P W t v.cells.toList ∧ CO B enc P W ts vs
  | _, _ => False
abbrev Ins (enc : TypeId × Value → H) (P : Program) (W : World) (ts : List TypeId) (vs : List Value) : Prop := CO reachBytes enc P W ts vs
theorem CO.mk : ∀ {ts : List TypeId} {vs : List Value}, vs.length = ts.length → (∀ (j : Nat) t v, ts[j]? = some t → vs[j]? = some v → (∃ base, Value.okWide P W .any base t v) ∧ FI B enc P W t v.cells.toList) → CO B enc P W ts vs
  | [], [], _, _ => trivial
  | t :: ts, v :: vs, h, k => ⟨(k 0 t v rfl rfl).1, (k 0 t v rfl rfl).2, CO.mk (by simpa using h) fun j t' v' ht hv => k (j + 1) t' v' (by simpa using ht) (by simpa using hv)⟩
  | [], _ :: _, h, _ => by simp at h
  | _ :: _, [], h, _ => by simp at h
theorem CO.nil {args : Array Value} (h : CO B enc P W [] args.toList) : args = #[] := by rcases args with ⟨_ | ⟨_, _⟩⟩ <;> simp_all [CO]
theorem CO.cons {t : TypeId} {ts : List TypeId} {vs : List Value} (h : CO B enc P W (t :: ts) vs) : ∃ v vs', vs = v :: vs' ∧ (∃ base, Value.okWide P W .any base t v) ∧ FI B enc P W t v.cells.toList ∧ CO B enc P W ts vs' := by
  cases vs with
  | nil => exact h.elim
  | cons v vs' => exact ⟨v, vs', rfl, h⟩
theorem CO.nil' {vs : List Value} (h : CO B enc P W [] vs) : vs = [] := by cases vs with | nil => rfl | cons _ _ => exact h.elim
theorem CO.one {args : Array Value} {t : TypeId} (h : CO B enc P W [t] args.toList) : ∃ v, args = #[v] ∧ (∃ base, Value.okWide P W .any base t v) ∧ FI B enc P W t v.cells.toList := by
  obtain ⟨v, vs, e, h1, h2, h3⟩ := h.cons; obtain rfl := h3.nil'; exact ⟨v, by cases args; simp_all, h1, h2⟩
theorem CO.three {args : Array Value} {t t' t'' : TypeId} (h : CO B enc P W [t, t', t''] args.toList) : ∃ v v' v'', args = #[v, v', v''] ∧ ((∃ base, Value.okWide P W .any base t v) ∧ FI B enc P W t v.cells.toList) ∧ ((∃ base, Value.okWide P W .any base t' v') ∧ FI B enc P W t' v'.cells.toList) ∧ ((∃ base, Value.okWide P W .any base t'' v'') ∧ FI B enc P W t'' v''.cells.toList) := by
  obtain ⟨v, vs, e, h1, h2, h3⟩ := h.cons; obtain ⟨v', vs', rfl, h1', h2', h3'⟩ := h3.cons; obtain ⟨v'', vs'', rfl, aex, aey, aez⟩ := h3'.cons; obtain rfl := aez.nil'
  exact ⟨v, v', v'', by cases args; simp_all, ⟨h1, h2⟩, ⟨h1', h2'⟩, ⟨aex, aey⟩⟩
theorem IG {base : Nat} {sp : Nat → Bool} {held : Bool} : ∀ {ts : List TypeId} {vs : List Value} {ds : List (DataW H)} {p : List MemPlace}, DataW.TrodAll enc P W base sp held ts vs ds p → vs.length = ts.length ∧ ds.length = ts.length
  | [], _, _, _, h => by obtain ⟨rfl, rfl, rfl⟩ := trodAll_nil h; simp
  | t :: ts, _, _, _, h => by
    obtain ⟨v, vs1, d, ds1, a, b, rfl, rfl, rfl, _, h2⟩ := trodAll_cons h
    obtain ⟨i1, i2⟩ := IG h2
    simp [i1, i2]
theorem FV (hl : laidOutB P = true) {W' : World} (hb : Below W.heap.size W W') : ∀ {ts : List TypeId} {vs : List Value} {ds : List (DataW H)} {p : List MemPlace}, (∀ t ∈ ts, P.readableRec t = true ∧ t < P.types.size) →
    DataW.TrodAll enc P W 0 (fun _ => true) true ts vs ds p → (∀ x ∈ p, x.block < W.heap.size) → DataW.TrodAll enc P W' 0 (fun b => decide (b < W.heap.size)) true ts vs ds p
  | [], _, _, _, _, h, _ => by obtain ⟨rfl, rfl, rfl⟩ := trodAll_nil h; exact trodAll_mk0
  | t :: ts, _, _, _, ht, h, hp => by
    obtain ⟨v, vs1, d, ds1, a, b, rfl, rfl, rfl, h1, h2⟩ := trodAll_cons h
    have hq := ht t (by simp)
    exact ⟨a, b, Below.trod hl hq.1 hq.2 h1 hb (fun x hx => hp x (by simp [hx])), FV hl hb (fun t' h' => ht t' (by simp [h'])) h2 (fun x hx => hp x (by simp [hx])), rfl⟩
end
theorem Wi {α : Type _} {l : List α} (h : l.length = 3) : ∃ a b c, l = [a, b, c] := by match l, h with | [a, b, c], _ => exact ⟨a, b, c, rfl⟩
theorem XU {H : Type} {enc : TypeId × Value → H} {P : Program} {fn : Func} {s : ChangeSpec} {tb : TypeId} {ts : List TypeId} (laid : laidOutB P = true) (hpn : fn.params.toList = ts) (hres : fn.resultTypes = #[tb]) (htb : P.underlying tb = some .bool) (hvars : s.vars = [])
    (hts : ts.all (fun t => P.readableRec t && decide (t < P.types.size)) = true) (hspec : ∀ ds : List (DataW H), ds.length = ts.length → s.fn H ds = { results := [.lit (.bool true)], args := ds })
    {W W' : World} {args : Array Value} {ds gs : List (DataW H)} {before : List MemPlace} (hW : DataW.Whole enc P fn.params.toList s.vars false W args.toList ds gs before) (hb : Below W.heap.size W W') :
    s.post enc P fn false true false false W args (.bool true) W' := by
  have hW' := hW
  obtain ⟨p, q, hA, hV, rfl, hfz, hnd⟩ := hW
  rw [hvars] at hV
  obtain ⟨rfl, rfl⟩ : gs = [] ∧ q = [] := by cases gs <;> simp_all [DataW.TrodVars]
  have hn2 : ds.length = ts.length := by rw [← hpn]; exact (IG hA).2
  have hlt : ∀ x ∈ p, x.block < W.heap.size := fun x hx => by simpa using hW'.lt x (by simpa using hx)
  have hl := hspec ds hn2
  refine ⟨ds, [], p ++ [], [], p, [], hW', ?_, ?_, ?_, hb.frame _, fun h => by cases h⟩
  · rw [hres, List.append_nil, hl]
    exact trodAll_mk1 (shut_bool htb true)
  · rw [List.append_nil, hl]
    exact FV laid hb (fun t ht => by simpa using List.all_eq_true.1 hts t (by rw [← hpn]; exact ht)) hA hlt
  · rw [hvars, List.append_nil, hl]
    rfl
theorem aal {H : Type} {enc : TypeId × Value → H} {P : Program} {fn : Func} {s : ChangeSpec} {ts : List TypeId} (hpn : fn.params.toList = ts) (hvars : s.vars = []) {W : World} {base : Nat} {args : Array Value} {ds gs : List (DataW H)} {before : List MemPlace}
    (hval : ∀ (j : Nat) t v, fn.params[j]? = some t → args[j]? = some v → Value.okWide P W .any base t v) (hW : DataW.Whole enc P fn.params.toList s.vars false W args.toList ds gs before)
    (hwt : (DataW.weightsEach P (fn.params.toList ++ s.plain.varTypes P) (ds ++ gs)).all (· ≤ reachBytes) = true) : Ins enc P W ts args.toList := by
  obtain ⟨p, q, hA, hV, rfl, hfz, hnd⟩ := hW
  rw [hvars] at hV
  obtain ⟨rfl, rfl⟩ : gs = [] ∧ q = [] := by cases gs <;> simp_all [DataW.TrodVars]
  have hw2 : ∀ n ∈ DataW.weightsEach P fn.params.toList ds, n ≤ reachBytes := by
    have e0 : s.plain.varTypes P = [] := by simp [ChangeSpec.plain, DataSpec.varTypes, hvars]
    rw [e0, List.append_nil, List.append_nil] at hwt
    simpa using hwt
  obtain ⟨hn1, hn2, hin⟩ := IE hA hw2
  rw [← hpn]
  exact CO.mk hn1 fun j t v ht hv => ⟨⟨base, hval j t v (by simpa using ht) (by simpa using hv)⟩, hin j t v ht hv⟩
theorem XV {H : Type} {enc : TypeId × Value → H} {a : Assume} {C : Checked} {os : Os} {f : FuncId} {fn : Func} {s : ChangeSpec} {conds : List PathCond} {tb : TypeId} (ts : List TypeId)
    (own : ownKnob C.prog.godebug = none) (laid : laidOutB C.prog = true) (started : os.Started) (noInit : C.prog.inits.idxOf? f = none) (hfn : C.prog.funcs[f]? = some fn)
    (hpn : fn.params.toList = ts) (hres : fn.resultTypes = #[tb]) (htb : C.prog.underlying tb = some .bool) (hvars : s.vars = [])
    (hts : ts.all (fun t => C.prog.readableRec t && decide (t < C.prog.types.size)) = true)
    (hspec : ∀ ds : List (DataW H), ds.length = ts.length → s.fn H ds = { results := [.lit (.bool true)], args := ds })
    (witness : ∃ (w : World) (tape : Tape) (i : Input), w.os = os ∧ (w.forCall tape i).Shaped C.prog ∧ i.vars = [] ∧ Input.okWide C.prog (w.forCall tape i) .any w.heap.size f i ∧
      s.pre6 enc C.prog fn conds false (w.forCall tape i).memory i.args ∧ a.holds C.prog (lone (Frame.enter C.prog f i.args .normal) [] (w.forCall tape i)))
    (walk : ∀ (W : World) (args : Array Value), Ins enc C.prog W ts args.toList → iQ C.prog f args W fun v W' => v = .bool true ∧ Below W.heap.size W W') :
    ReturnsInHanded a C os f .any (s.pre6 enc C.prog fn conds false) (s.post enc C.prog fn false true false false) := by
  refine returnsInHanded_of_change_sized own started noInit hfn witness ?_
  intro W base args ds gs before hval hW hcnd hwt hh
  exact Calls.mono (walk W args (aal hpn hvars hval hW hwt)) fun e W' ⟨v, he, hv, hb⟩ => ⟨v, he, by subst hv; exact XU laid hpn hres htb hvars hts hspec hW hb⟩
end Go.Proofs.YtnhhmieghbfalaaGreat
end
section
namespace Go.Proofs.YtnhhmieghbfalaaGreat

theorem own : ownKnob Tryz.prog.godebug = none := by kernel_rfl
theorem laid : laidOutB Tryz.prog = true := by kernel_rfl
end Go.Proofs.YtnhhmieghbfalaaGreat
end
section
namespace Go.Proofs.YtnhhmieghbfalaaGreat
open Go.RowKit
def Cj (I : Hp) (k : IntKind) (vs : List Value) (ls : List (List Int)) : Prop := vs.length = ls.length ∧ ∀ j, j < ls.length → Eh I k (vs.getD j undef) (ls.getD j [])
def pR (k : IntKind) (vs : List Value) (ls : List (List Int)) : HP := know (fun I => Cj I k vs ls) fun _ _ hl h => ⟨h.1, fun j hj => (h.2 j hj).mono hl⟩
def LL (e : TypeId) (k : IntKind) (v : Value) (ls : List (List Int)) : HP := wF fun vs => Row e 1 v ls.length vs • pR k vs ls
theorem xg {α : Type _} {l m : List α} {j : Nat} {d : α} (h : j < l.length) : (l ++ m).getD j d = l.getD j d := by simp [List.getD_eq_getElem?_getD, List.getElem?_append_left h]
theorem vZ {α : Type _} {l m : List α} {j : Nat} {d : α} (h : l.length ≤ j) : (l ++ m).getD j d = m.getD (j - l.length) d := by simp [List.getD_eq_getElem?_getD, List.getElem?_append_right h]
theorem Oc {α : Type _} {l : List α} {i j : Nat} {d : α} : (l.drop i).getD j d = l.getD (i + j) d := by simp [List.getD_eq_getElem?_getD]
theorem Hy {α : Type _} {l : List α} {i j : Nat} {d : α} (h : j < i) : (l.take i).getD j d = l.getD j d := by simp [List.getD_eq_getElem?_getD, List.getElem?_take, h]
theorem wS {α : Type _} {l : List α} {j : Nat} {d : α} (h : j < l.length) : l.getD j d ∈ l := by rw [List.getD_eq_getElem?_getD, List.getElem?_eq_getElem h]; exact List.getElem_mem h
theorem Cj.app {I : Hp} {k : IntKind} {vs us : List Value} {ls ms : List (List Int)} (h : Cj I k vs ls) (g : Cj I k us ms) : Cj I k (vs ++ us) (ls ++ ms) := by
  refine ⟨by simp [h.1, g.1], fun j hj => ?_⟩
  by_cases hl : j < ls.length
  · rw [xg (by rw [h.1]; exact hl), xg hl]; exact h.2 j hl
  · have hj' : j - ls.length < ms.length := by simp at hj; omega
    rw [vZ (by rw [h.1]; omega), vZ (by omega), h.1]; exact g.2 _ hj'
theorem Cj.drop {I : Hp} {k : IntKind} {vs : List Value} {ls : List (List Int)} (h : Cj I k vs ls) (i : Nat) : Cj I k (vs.drop i) (ls.drop i) := by
  refine ⟨by simp [h.1], fun j hj => ?_⟩
  rw [Oc, Oc]
  exact h.2 _ (by simp at hj; omega)
theorem Cj.take {I : Hp} {k : IntKind} {vs : List Value} {ls : List (List Int)} (h : Cj I k vs ls) (i : Nat) : Cj I k (vs.take i) (ls.take i) := by
  refine ⟨by simp [h.1], fun j hj => ?_⟩
  simp at hj
  rw [Hy (by omega), Hy (by omega)]
  exact h.2 _ (by omega)
theorem Eh.one {I : Hp} {k : IntKind} {v : Value} {l : List Int} (h : Eh I k v l) : Cj I k [v] [l] := ⟨rfl, fun j hj => by
  obtain rfl : j = 0 := by simp at hj; omega
  exact h⟩
theorem Eh.Ve {I : Hp} {k : IntKind} {v : Value} {l : List Int} (h : Eh I k v l) : v.oneCell' = true := by obtain ⟨a, c, rfl, _⟩ := h; rfl
section
variable {w0 w : World} {F : HP} {e : TypeId} {k : IntKind} {v : Value} {vs us : List Value} {ls ms : List (List Int)} {l : List Int}
theorem V.zQ (H : V w0 w (pR k vs ls • F)) {j : Nat} (hj : j < ls.length) : oL w k (vs.getD j undef) (ls.getD j []) := let ⟨I, h, hI⟩ := H.sV; (h.2 j hj).rd hI
theorem V.QU (H : V w0 w (pR k vs ls • F)) : vs.length = ls.length := let ⟨I, h, hI⟩ := H.sV; h.1
theorem V.yQ (H : V w0 w (pR k vs ls • F)) : ∀ u ∈ vs, u.oneCell' = true := by
  obtain ⟨I, h, hI⟩ := H.sV
  intro u hu
  obtain ⟨j, hj, rfl⟩ := List.getElem_of_mem hu
  have := (h.2 j (by rw [← h.1]; exact hj)).Ve
  rwa [List.getD_eq_getElem?_getD, List.getElem?_eq_getElem hj] at this
theorem V.KD (H : V w0 w F) : V w0 w (pR k [] [] • F) := H.yw fun I => ⟨rfl, fun j hj => by simp at hj⟩
theorem V.Oe (H : V w0 w (pR k vs ls • qK k v l • F)) : V w0 w (pR k (vs ++ [v]) (ls ++ [l]) • F) := H.CV (rF (fun I h g => h.app g.one) F)
theorem V.rO (H : V w0 w (qK k v l • pR k vs ls • F)) : V w0 w (pR k (v :: vs) (l :: ls) • F) := H.CV (rF (fun I h g => h.one.app g) F)
theorem V.Og (H : V w0 w (pR k vs ls • F)) (i : Nat) : V w0 w (pR k (vs.drop i) (ls.drop i) • F) := H.CV (oM (fun I h => h.drop i) F)
theorem V.Wj (H : V w0 w (pR k vs ls • F)) (i : Nat) : V w0 w (pR k (vs.take i) (ls.take i) • F) := H.CV (oM (fun I h => h.take i) F)
theorem V.ll (H : V w0 w (LL e k v ls • F)) : ∃ vs, V w0 w (Row e 1 v ls.length vs • pR k vs ls • F) := let ⟨vs, h⟩ := H.oN; ⟨vs, h.flat⟩
theorem V.aaY (H : V w0 w (Row e 1 v ls.length vs • pR k vs ls • F)) : V w0 w (LL e k v ls • F) := V.ji vs H.deep
theorem V.qZ {n : Nat} (H : V w0 w (Row e 1 v n vs • pR k vs ls • F)) : V w0 w (LL e k v ls • F) := by
  have h1 := H.yg
  have h2 := H.swap.QU
  obtain rfl : n = ls.length := by omega
  exact H.aaY
theorem V.zS (H : V w0 w (LL e k v ls • F)) {n : Nat} (h : n ≤ ls.length) : V w0 w (LL e k (sG 1 0 n v) (ls.take n) • F) := by
  obtain ⟨vs, H⟩ := H.ll
  have H1 := (H.QE h).swap.Wj n |>.swap
  rw [Nat.mul_one] at H1
  exact V.qZ H1
theorem Rd.QV {n : Nat} {xs : List Value} (hr : Rd w 1 v n xs) {i : Nat} (h : i ≤ n) : Rd w 1 (sG 1 0 i v) i (xs.take i) := by
  have h1 := hr.cut (Nat.zero_le i) h
  simpa using h1
theorem Rd.aaZ {n : Nat} {xs : List Value} (hr : Rd w 1 v n xs) {i : Nat} (h : i ≤ n) : Rd w 1 (sG 1 i n v) (n - i) (xs.drop i) := by
  have h1 := hr.cut h (Nat.le_refl _)
  rwa [Nat.mul_one, Nat.mul_one, List.take_of_length_le (by simp [hr.len])] at h1
end
theorem XW {α : Type _} {enc : α → List Value} {sz : Nat} (he : ∀ a, (enc a).length = sz) (l : List α) : (l.flatMap enc).length = l.length * sz := by
  induction l with
  | nil => simp
  | cons a l ih => simp [he, ih, Nat.add_mul, Nat.add_comm]
theorem mM {α : Type _} {enc : α → List Value} {sz : Nat} (he : ∀ a, (enc a).length = sz) {l : List α} {k : Nat} (hk : k < l.length) (d : α) : ((l.flatMap enc).drop (k * sz)).take sz = enc (l.getD k d) := by
  have h1 : l = l.take k ++ l.getD k d :: l.drop (k + 1) := by
    rw [List.getD_eq_getElem?_getD, List.getElem?_eq_getElem hk]
    simp
  have h2 : ((l.take k).flatMap enc).length = k * sz := by rw [XW he, List.length_take, Nat.min_eq_left (by omega)]
  conv => lhs; rw [h1]
  rw [List.flatMap_append, List.drop_append, h2]
  simp [h2, List.take_append, he]
theorem aam {α : Type _} [Inhabited α] {sz n : Nat} {enc : α → List Value} {xs : List Value} {p : α → Prop} (hx : xs.length = n * sz) (h : ∀ k, k < n → ∃ a, (xs.drop (k * sz)).take sz = enc a ∧ p a) : ∃ l : List α, l.length = n ∧ xs = l.flatMap enc ∧ ∀ k, k < n → p (l.getD k default) := by
  induction n generalizing xs with
  | zero => exact ⟨[], rfl, by simpa using List.eq_nil_of_length_eq_zero (by simpa using hx), fun k hk => by omega⟩
  | succ n ih =>
    obtain ⟨a, h1, h2⟩ := h 0 (by omega)
    rw [Nat.zero_mul, List.drop_zero] at h1
    obtain ⟨l, g1, g2, g3⟩ := ih (xs := xs.drop sz) (by rw [List.length_drop, hx, Nat.succ_mul]; omega) (fun k hk => by
      obtain ⟨b, h3, h4⟩ := h (k + 1) (by omega)
      exact ⟨b, by rw [← h3, List.drop_drop, Nat.succ_mul, Nat.add_comm], h4⟩)
    refine ⟨a :: l, by simp [g1], ?_, fun k hk => ?_⟩
    · rw [List.flatMap_cons, ← g2, ← h1, List.take_append_drop]
    · cases k with
      | zero => exact h2
      | succ k => exact g3 k (by omega)
theorem mV {P : Program} {L : List (Nat × Value)} {w : World} {ty : TypeId} {x : Operand} {t : TypeId} {d : TypeDesc} {b o n c sz n' k : Nat} {xs ys : List Value} (hr : Rd w sz (.slice (some ⟨b, o, none⟩) n c) n' xs) (hk : k < n') (hu : P.underlying t = some d) (hd : O9 d = true) (hs : ∀ w, (sizeOf t).run P w = .ok sz w)
    (hx : ev L x = some (.pointer (some ⟨b, o + (k : Int).toNat * sz, none⟩))) (hy : (xs.drop (k * sz)).take sz = ys) (hl : ys.length = sz) : Val P L (.load t x) ty w (.agg ys.toArray) w :=
  EP (by rw [hu]; rfl) (NZ hu hd) hs hl hx (fun j u hj => by
    have hjl : j < sz := by rw [← hl]; exact (List.getElem?_eq_some_iff.1 hj).1
    rw [hr.atS hk hjl, List.getD_eq_getElem?_getD]
    rw [← hy, List.getElem?_take, if_pos hjl, List.getElem?_drop] at hj
    rw [hj]; rfl)
end Go.Proofs.YtnhhmieghbfalaaGreat
end
section
namespace Go.Proofs.YtnhhmieghbfalaaGreat
open Go.RowKit
open _root_.Go.Proofs.Tryz
section
variable {w0 w : World} {F : HP} {v d s z d2 z2 u1 u2 u3 : Value} {L dl il dl2 il2 l1 l2 l3 : List Int} {a a2 : Int}
def aeA (L : List Int) (a : Int) (dl : List Int) : Bool := decide (0 ≤ a ∧ a + dl.length ≤ L.length) && ((L.drop a.toNat).take dl.length == dl)
def uE (L : List Int) (a : Int) (dl il : List Int) : Int := if aeA L a dl then (if 1024 < (L.length : Int) - dl.length + il.length then 3 else 0) else 1
def uL (L : List Int) (a : Int) (dl il : List Int) : List Int := if uE L a dl il = 0 then L.take a.toNat ++ il ++ L.drop (a.toNat + dl.length) else []
abbrev edV (a : Int) (d z : Value) : Value := .agg #[.int .i64 a, d, z]
theorem yA (H : V w0 w F) (hd : jY w0 F .i32 d dl) (hi : jY w0 F .i32 z il) (b2 : dl.length ≤ 35184372087808) (b3 : il.length ≤ 35184372087808) :
  iQ prog 129 #[edV a d z] w fun v' w' => ∃ d' s', v' = edV a d' s' ∧ V w0 w' (jg 21 .i32 d' dl • jg 21 .i32 s' il • F) := by
 refine jH func129 ntmps129 ?_
 refine lQ (jW (kC (l := [_, _, _]) H O O) ?_)
 rintro _ w1 ⟨b1, rfl, H1⟩
 refine jW (gq (l := [_, _, _]) H1 bV O) ?_
 rintro _ w2 ⟨b2, rfl, H2⟩
 refine qJ ?_
 have KE := H2.drew
 have kR := V.kp (KE.f2.f2)
 refine wL [1, 3, 6] kR O (fH 0 O kR 0 aP O ah O (iY 1 O kR (fun W hW => jQ ay O ((Kp.h hW).f2).get.2 O) (fH 2 O kR 1 aP O bg O (iY 3 O kR (fun W hW => jQ aA O ((Kp.h hW).f2).get.2 O) (fH 5 O kR 2 aP O bg O (iY 6 O kR (fun W hW => jQ aA O ((Kp.h hW).f2).get.2 O) (lU 4 O (xB O func6 (rJ KE (fun W HW => hd _ (HW.right.right)) (by omega))) ?_)))))))
 rintro u3 w3 H3
 have Ei := V.kp (H3.f3.f3.f3)
 refine dV Ei (fun W hW => (Kp.h hW).right.f2.f2) ?_
 refine lU 7 O (xB O func6 (rJ H3 (fun W HW => hi _ (HW.right.right.right)) (by omega))) ?_
 rintro u4 w4 H4
 have xR := V.kp (H4.f4.f4.f4.f4)
 refine dV xR (fun W hW => (Kp.h hW).right.f3.f3.f3) ?_
 obtain ⟨au3, cu3, eu3, -⟩ := oL.open ((H4.f2).aG)
 subst eu3
 obtain ⟨au4, cu4, eu4, -⟩ := oL.open ((H4).aG)
 subst eu4
 refine jR 8 O xR (fun _ => jd (pl := #[(0, 1), (1, 1), (2, 1)]) (#[_, _, _]) aP bV (fun w => by kernel_rfl) O (O)) ?_
 refine gJ 9 O (by kernel_rfl) (dD 0 (l' := [_, _, _]) (us := [_, _, _]) H4.f3 bF O O O (aH (aW (by first | rfl | exact Rd.one ((H4.f2).aG)) (aW (by first | rfl | exact Rd.one ((H4).aG)) bG))) O O) ?_
 rintro _ w7 H7
 have xU := V.kp (H7.f4.f4.f4.f4)
 refine fG xU (by kernel_rfl) ?_
 refine qN (bC (oP ?_))
 refine qO (.inl O) (Jg results129 O aP O (by rw [lY]; rfl) (H7).get.2) ?_
 exact ⟨_, _, O, H7.right.f3.right.f2⟩
theorem Hz (H : V w0 w F) (hd : jY w0 F .i32 d dl) (hi : jY w0 F .i32 z il) (b2 : dl.length ≤ 35184372087808) (b3 : il.length ≤ 35184372087808) :
  iQ prog 136 #[edV a d z] w fun v' w' => ∃ d' s', v' = edV a d' s' ∧ V w0 w' (jg 21 .i32 d' il • jg 21 .i32 s' dl • F) := by
 refine jH func136 ntmps136 ?_
 refine lQ (jW (kC (l := [_, _, _]) H O O) ?_)
 rintro _ w1 ⟨b1, rfl, H1⟩
 refine jW (gq (l := [_, _, _]) H1 bV O) ?_
 rintro _ w2 ⟨b2, rfl, H2⟩
 refine Xt (Z 0 aP O ah O (dL ay O (H2.f2).get.2 O (Z 2 aP O bg O (dL aA O (H2.f2).get.2 O (Z 1 aP O bg O (dL aA O (H2.f2).get.2 O ?_))))))
 obtain ⟨az, cz, ez, -⟩ := oL.open (hi _ (H2.right.right))
 subst ez
 obtain ⟨ad, cd, ed, -⟩ := oL.open (hd _ (H2.right.right))
 subst ed
 refine aZ (jd (pl := #[(0, 1), (1, 1), (2, 1)]) (#[_, _, _]) aP bV (fun w => by kernel_rfl) O (O)) (fO O func129 (yA H2 (fun W HW => hi _ (HW.right.right)) (fun W HW => hd _ (HW.right.right)) (by omega) (by omega)) ?_)
 rintro _ w5 ⟨d5, s5, rfl, H5⟩
 refine aC (dD 0 (l' := [_, _, _]) (us := [_, _, _]) H5.f3 bF O O O (aH (aW (by first | rfl | exact Rd.one ((H5).aG)) (aW (by first | rfl | exact Rd.one ((H5.f2).aG)) bG))) O O) ?_
 rintro _ w6 H6
 refine XJ ?_
 refine qO (.inl O) (Jg results136 O aP O (by rw [lY]; rfl) (H6).get.2) ?_
 exact ⟨_, _, O, H6.right.f3.right.f2.f2⟩
end
end Go.Proofs.YtnhhmieghbfalaaGreat
end
