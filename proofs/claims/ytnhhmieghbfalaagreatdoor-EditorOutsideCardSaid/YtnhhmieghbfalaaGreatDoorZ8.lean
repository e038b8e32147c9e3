import Derived.Test.YtnhhmieghbfalaaGreatDoorZ4
import Derived.Test.YtnhhmieghbfalaaGreatDoorZ6
import Derived.Test.YtnhhmieghbfalaaGreatDoorZ5
set_option linter.unusedSimpArgs false
set_option linter.unusedVariables false
/- Texts of mine, joined, their names in short: Buf Buf2 Buf3 LineP Move BLive Same Apply. -/
section
namespace Go.Proofs.YtnhhmieghbfalaaGreatDoor
open Go.RowKit
open _root_.Go.Proofs.Tryz
theorem X5 {s i j : Nat} {v : Value} (h : v.oneCell' = true) : (xI s i j v).oneCell' = true := by cases v <;> simp_all [xI, Value.oneCell']
def lQ (v : Value) (f t pt mk : Int) : Array Value := #[.bool true, v, .int .i64 f, .int .i64 t, .int .i64 pt, .int .i64 mk]
theorem af6 {a b : Value} (h : a.oneCell' = true) (k : b.oneCell' = true) : ∀ u ∈ [a, b], u.oneCell' = true := by
  intro u hu; simp at hu; rcases hu with rfl | rfl
  · exact h
  · exact k
section
variable {v u : Value} {f t pt mk x : Int}
theorem rQ : (lQ v f t pt mk).size = 6 := rfl
theorem acq : (lQ v f t pt mk).setIfInBounds 1 u = lQ u f t pt mk := rfl
theorem Ij : (lQ v f t pt mk).setIfInBounds 2 (.int .i64 x) = lQ v x t pt mk := rfl
theorem LQ : (lQ v f t pt mk).setIfInBounds 3 (.int .i64 x) = lQ v f x pt mk := rfl
theorem F6 : (lQ v f t pt mk).setIfInBounds 4 (.int .i64 x) = lQ v f t x mk := rfl
theorem zB : (lQ v f t pt mk).setIfInBounds 5 (.int .i64 x) = lQ v f t pt x := rfl
end
def jC (p : Nat) (L : List Int) (pt mk : Int) : HP := BK fun (x : Value × List Int × Nat × Nat) =>
  fact (x.2.2.1 ≤ x.2.2.2 ∧ x.2.2.2 ≤ x.2.1.length ∧ L = x.2.1.take x.2.2.1 ++ x.2.1.drop x.2.2.2 ∧ L.length ≤ 1024 ∧ x.2.1.length ≤ 4096 ∧ (0 ≤ pt ∧ pt ≤ L.length) ∧ (-1 ≤ mk ∧ mk ≤ L.length)) •
    gU p (.cells (lQ x.1 x.2.2.1 x.2.2.2 pt mk) 168 (0, 0)) • kF 21 .i32 x.1 x.2.1
section
variable {w0 w : World} {F : HP} {p : Nat} {L : List Int} {pt mk : Int}
theorem V.buf (H : V w0 w (jC p L pt mk • F)) : ∃ (a : Option Addr) (c : Nat) (xs : List Int) (f t : Nat), f ≤ t ∧ t ≤ xs.length ∧ L = xs.take f ++ xs.drop t ∧ L.length ≤ 1024 ∧ xs.length ≤ 4096 ∧ (0 ≤ pt ∧ pt ≤ L.length) ∧ (-1 ≤ mk ∧ mk ≤ L.length) ∧ xs.length ≤ c ∧ (c : Int) ≤ 9223372036854775807 ∧ L.length + t = xs.length + f ∧
    V w0 w (gU p (.cells (lQ (.slice a xs.length c) f t pt mk) 168 (0, 0)) • kF 21 .i32 (.slice a xs.length c) xs • F) := by
  obtain ⟨⟨v, xs, f, t⟩, H⟩ := H.sS
  obtain ⟨⟨h1, h2, h3, h4, h5, h6, h7⟩, H⟩ := H.flat.fact
  have H := H.flat
  obtain ⟨a, c, hv, hc1, hc2, _⟩ := (H.swap.aJ).form
  dsimp only at *
  subst hv
  refine ⟨a, c, xs, f, t, h1, h2, h3, h4, h5, h6, h7, hc1, hc2, ?_, H⟩
  rw [h3]; simp; omega
theorem V.zh {v : Value} {xs : List Int} {f t : Nat} (h1 : f ≤ t) (h2 : t ≤ xs.length) (h3 : L = xs.take f ++ xs.drop t) (h4 : L.length ≤ 1024) (h5 : xs.length ≤ 4096) (h6 : 0 ≤ pt ∧ pt ≤ L.length) (h7 : -1 ≤ mk ∧ mk ≤ L.length)
    (H : V w0 w (gU p (.cells (lQ v f t pt mk) 168 (0, 0)) • kF 21 .i32 v xs • F)) : V w0 w (jC p L pt mk • F) :=
  V.lK (v, xs, f, t) (V.deep (V.qY ⟨h1, h2, h3, h4, h5, h6, h7⟩ (V.deep H)))
theorem Bv (t : TypeId) {cs : Array Value} {fr : Nat × Nat} {m : Bool} (hb : w.heap[p]? = some (.cells cs t fr)) (h0 : cs[0]? = some (.bool m)) :
    iK prog 136 #[.pointer (some ⟨p, 0, none⟩)] w fun v w' => v = .bool (!m) ∧ w = w' := by
  refine jl func136 ntmps136 ?_
  refine kG O (bT O (aT (oQ iL O O) (QW O (fun h1 => ?_))))
  (try simp only [aG] at h1)
  refine bJ (cO O (bJ (dM O (bJ (bg 0 bV O aN O (bJ (dQ bn O hb h0 (bJ (aT (jG O) (kP O O (iJ O (dO results136 O ?_))))))))))))
  exact ⟨O, O⟩
theorem tJ (H : V w0 w (jC p L pt mk • F)) : iK prog 73 #[.pointer (some ⟨p, 0, none⟩)] w fun v w' => v = .int .i64 L.length ∧ Cj w w' := by
 obtain ⟨a, c, xs, f, t, h1, h2, h3, h4, h5, h6, h7, hc1, hc2, hl, H1⟩ := H.buf
 have hb := H1.get.2
 refine jl func73 ntmps73 ?_
 refine kG O (aI (bT O (fH O func136 (Bv _ hb O) ?_)))
 rintro _ _ ⟨rfl, rfl⟩
 refine iR (yh (gX (aI ?_)))
 refine vU (n := 16) [0, 1, 2, 3, 4, 5, 6, 7, 8, 9, 10, 11, 12, 13, 14, 15] (fun W => W.heap = w.heap) (by kernel_rfl) (by kernel_rfl) O ?_
 have hS0 : (fun W => W.heap = w.heap) (w.drew) := rfl
 have H3d := H1.drew
 refine fM 0 O hS0 O (jF 1 O hS0 O (eP 2 O hS0 1 bV O bI O ?_))
 refine iD 3 O hS0 (fun W hW => jk aB O (by rw [hW]; exact hb) O) ?_
 refine iE 4 O hS0 (fun _ => kE aB O) (fM 5 O hS0 O (jF 6 O hS0 O (eP 7 O hS0 3 bV O ah O ?_)))
 refine iD 8 O hS0 (fun W hW => jk ay O (by rw [hW]; exact hb) O) ?_
 refine fM 9 O hS0 O (jF 10 O hS0 O (eP 11 O hS0 2 bV O ah O ?_))
 refine iD 12 O hS0 (fun W hW => jk ay O (by rw [hW]; exact hb) O) ?_
 refine iE 13 O hS0 (fun _ => nN O O (by omega)) (iE 14 O hS0 (fun _ => nN O O (by omega)) (iE 15 O hS0 (fun _ => eH O) (oH (aZ (kN (dO results73 O ?_))))))
 exact ⟨by congr 1; omega, Cj.refl _ |>.drew⟩
theorem wZ (H : V w0 w (jC p L pt mk • F)) : iK prog 72 #[.pointer (some ⟨p, 0, none⟩)] w fun v w' => v = .int .i64 pt ∧ w = w' := by
  obtain ⟨a, c, xs, f, t, h1, h2, h3, h4, h5, h6, h7, hc1, hc2, hl, H1⟩ := H.buf
  have hb := H1.get.2
  refine jl func72 ntmps72 ?_
  refine kG O (aI (bT O (fH O func136 (Bv _ hb O) ?_)))
  rintro _ _ ⟨rfl, rfl⟩
  refine iR (yh (gX (bT O (dM O (bg 4 bV O ah O (dQ ay O hb O (iJ O (dO results72 O ?_))))))))
  exact ⟨O, O⟩
theorem V7 (H : V w0 w (jC p L pt mk • F)) : iK prog 174 #[.pointer (some ⟨p, 0, none⟩)] w fun v w' => v = .int .i64 mk ∧ w = w' := by
  obtain ⟨a, c, xs, f, t, h1, h2, h3, h4, h5, h6, h7, hc1, hc2, hl, H1⟩ := H.buf
  have hb := H1.get.2
  refine jl func174 ntmps174 ?_
  refine kG O (aI (bT O (fH O func136 (Bv _ hb O) ?_)))
  rintro _ _ ⟨rfl, rfl⟩
  refine iR (yh (gX (bT O (dM O (bg 5 bV O ah O (dQ ay O hb O (iJ O (dO results174 O ?_))))))))
  exact ⟨O, O⟩
theorem yF (H : V w0 w (jC p L pt mk • F)) : iK prog 154 #[.pointer (some ⟨p, 0, none⟩)] w fun v w' => V w0 w' (kF 21 .i32 v L • jC p L pt mk • F) := by
 obtain ⟨a, c, xs, f, t, h1, h2, h3, h4, h5, h6, h7, hc1, hc2, hl, H1⟩ := H.buf
 have hb := H1.get.2
 refine jl func154 ntmps154 ?_
 refine kG O (aI (bT O (fH O func136 (Bv _ hb O) ?_)))
 rintro _ _ ⟨rfl, rfl⟩
 refine iR (yh (gX (aI ?_)))
 refine vU (n := 21) [0, 1, 2, 3, 4, 5, 6, 7, 8, 9, 10, 11, 12, 13, 14, 15, 16, 17, 18, 19, 20] (fun W => W.heap[p]? = some (.cells (lQ (.slice a xs.length c) f t pt mk) 168 (0, 0))) (by kernel_rfl) (by kernel_rfl) O ?_
 have hS0 : (fun W => W.heap[p]? = some (.cells (lQ (.slice a xs.length c) f t pt mk) 168 (0, 0))) (w.drew) := hb
 have H3d := H1.drew
 refine fM 0 O hS0 O (jF 1 O hS0 O (eP 2 O hS0 1 bV O bI O (iD 3 O hS0 (fun W hW => jk aB O hW O) (fM 4 O hS0 O (jF 5 O hS0 O (eP 6 O hS0 2 bV O ah O (iD 7 O hS0 (fun W hW => jk ay O hW O) (iE 8 O hS0 (fun _ => zy aB jU O O O (by omega)) ?_))))))))
 refine fM 9 O hS0 O (jF 10 O hS0 O (eP 11 O hS0 1 bV O bI O (iD 12 O hS0 (fun W hW => jk aB O hW O) (fM 13 O hS0 O (jF 14 O hS0 O (eP 15 O hS0 3 bV O ah O (iD 16 O hS0 (fun W hW => jk ay O hW O) (iE 17 O hS0 (fun _ => zy aB jU O O O (by omega)) ?_))))))))
 refine lC 18 O (abp (vs := [xI 1 0 f (.slice a xs.length c), xI 1 t xs.length (.slice a xs.length c)]) H3d bF bI pR O O O (by decide) (af6 (X5 O) (X5 O))) ?_
 rintro _ w2 ⟨b2, rfl, H2⟩
 have hS2 : (fun W => W.heap[p]? = some (.cells (lQ (.slice a xs.length c) f t pt mk) 168 (0, 0))) w2 := H2.swap.get.2
 refine KP hS2 ?_
 refine lC 19 O (qW O func182 (Jy (l1 := xs.take f) (l2 := xs.drop t) H2 (fun W HW => mP.upto HW.PU.aJ (by omega)) (fun W HW => mP.from HW.PU.aJ (by omega)) (by simp; omega))) ?_
 rintro u w3 H3
 have hS3 : (fun W => W.heap[p]? = some (.cells (lQ (.slice a xs.length c) f t pt mk) 168 (0, 0))) w3 := H3.PU.get.2
 refine KP hS3 ?_
 refine iE 20 O hS3 (fun _ => eH O) (oH (aZ (kN (dO results154 O ?_))))
 rw [← h3] at H3
 exact (V.zh h1 h2 h3 h4 h5 h6 h7 H3.swap.right.d3).swap
theorem O7 {v : Value} {l : List Int} (H : V w0 w F) (hr : jZ w0 F .i32 v l) (hl : l.length ≤ 1024) : iK prog 130 #[v] w fun v' w' => ∃ p, v' = .tuple #[.pointer (some ⟨p, 0, none⟩), .int .i64 0] ∧ V w0 w' (jC p l l.length (-1) • F) := by
 obtain ⟨a, c, rfl, _, _, _⟩ := (hr w H).open
 refine jl func130 ntmps130 ?_
 refine kQ (lg O (vI O (bT O (aT (kE aB O) (aT (fZ O O) (iR (VR O (fun h1 => ?_))))))))
 (try simp only [aG] at h1)
 refine gX (bT O (fH O func144 (Aw H hr (by omega)) ?_))
 rintro u w1 H1
 obtain ⟨au, cu, hu, _⟩ := (H1.aJ).form
 subst hu
 refine cO O (aT (kE aB O) (aT (kS (pl := #[(0, 1), (1, 1), (2, 1), (3, 1), (4, 1), (5, 1)]) (lQ (.slice au l.length cu) 0 0 l.length (-1)) bV zeroValue168 (fun w => by kernel_rfl) O (by kernel_rfl)) (jT (UQ H1 O) ?_)))
 rintro _ w2 ⟨b2, rfl, H2⟩
 refine vI O ?_
 have HB : V w0 w2 (gU b2 (.cells (lQ (.slice au l.length cu) 0 0 l.length (-1)) 168 (0, 0)) • kF 21 .i32 (.slice au l.length cu) l • F) := H2
 refine aF (ku O O (cO O (aT (kE aB O) (cO O (aT (kE aB O) (dM O (bg 2 bV O ah O (aH (iQ HB ah O O O (by rw [rQ]; decide)) ?_))))))))
 rintro _ w3 HB1
 rw [Ij] at HB1
 refine dM O (bg 3 bV O ah O (aH (iQ HB1 ah O O O (by rw [rQ]; decide)) ?_))
 rintro _ w4 HB2
 rw [LQ] at HB2
 refine qG O (lg O (iJ O (Fp results130 O O ?_)))
 exact ⟨_, O, V.zh (f := l.length) (t := l.length) (Nat.le_refl _) (Nat.le_refl _) (by simp) hl (by omega) (by omega) (by omega) HB2⟩
end
def qy (L : List Int) (i r : Nat) : List Int := lX (lX (List.replicate (L.length + r + 16) 0) 0 (L.take i)) (i + r + 16) (L.drop i)
theorem aag {L : List Int} {i r : Nat} (h : i ≤ L.length) : (qy L i r).length = L.length + r + 16 := by
  unfold qy
  rw [je, je] <;> simp [je] <;> first | omega | (rw [je] <;> simp <;> omega)
theorem O8 {l ys : List Int} {i : Nat} (h : i + ys.length ≤ l.length) : (lX l i ys).take (i + ys.length) = l.take i ++ ys := by
  unfold lX
  rw [List.take_append_of_le_length (by simp; omega), List.take_of_length_le (by simp; omega)]
theorem X6 {l ys : List Int} {i j : Nat} (h : i + ys.length ≤ j) (h2 : j ≤ l.length) : (lX l i ys).drop j = l.drop j := by
  unfold lX
  rw [List.drop_append, List.drop_eq_nil_of_le (by simp; omega), List.nil_append, List.drop_drop]
  congr 1
  simp
  omega
theorem Ru {l ys : List Int} {i j : Nat} (h : j ≤ i) (h2 : i ≤ l.length) : (lX l i ys).take j = l.take j := by
  unfold lX
  rw [List.append_assoc, List.take_append_of_le_length (by simp; omega), List.take_take, Nat.min_eq_left h]
theorem Rw {l ys : List Int} {i : Nat} (h : i + ys.length = l.length) : (lX l i ys).drop i = ys := by
  unfold lX
  rw [List.append_assoc, List.drop_append, List.drop_eq_nil_of_le (by simp; omega), List.nil_append]
  simp [show i - min i l.length = 0 from by omega, show l.length ≤ i + ys.length from by omega]
theorem X7 {L : List Int} {i r : Nat} (h : i ≤ L.length) : (qy L i r).take i = L.take i := by
  have h1 : (lX (List.replicate (L.length + r + 16) (0 : Int)) 0 (L.take i)).length = L.length + r + 16 := by rw [je] <;> simp; omega
  unfold qy
  rw [Ru (by omega) (by rw [h1]; omega)]
  have := O8 (l := List.replicate (L.length + r + 16) (0 : Int)) (ys := L.take i) (i := 0) (by simp; omega)
  rw [show 0 + (L.take i).length = i from by simp; omega] at this
  simpa using this
theorem X8 {L : List Int} {i r : Nat} (h : i ≤ L.length) : (qy L i r).drop (i + r + 16) = L.drop i := by
  have h1 : (lX (List.replicate (L.length + r + 16) (0 : Int)) 0 (L.take i)).length = L.length + r + 16 := by rw [je] <;> simp; omega
  exact Rw (by rw [h1]; simp; omega)
section
variable {w0 w : World} {F : HP} {p : Nat} {L : List Int} {pt mk : Int}
theorem V8 {i r : Nat} (H : V w0 w (jC p L pt mk • F)) (hi : i ≤ L.length) (hr : r ≤ 1024) :
  iK prog 176 #[.pointer (some ⟨p, 0, none⟩), .int .i64 i, .int .i64 r] w fun _ w' => ∃ v, V w0 w' (gU p (.cells (lQ v i (i + r + 16 : Nat) pt mk) 168 (0, 0)) • kF 21 .i32 v (qy L i r) • F) := by
 have hL4 : L.length ≤ 1024 := by obtain ⟨a, c, xs, f, t, h1, h2, h3, h4, h5, h6, h7, hc1, hc2, hl, H1⟩ := H.buf; exact h4
 have e1 : ((L.length : Int) + r + 16).toNat = L.length + r + 16 := by omega
 refine FY func176 ntmps176 ?_
 refine bT O (fH O func154 (yF H) ?_)
 rintro u w1 H1
 obtain ⟨au, cu, hu, hcu, amA, _⟩ := (H1.aJ).form
 subst hu
 obtain ⟨a, c, xs, f, t, h1, h2, h3, h4, h5, h6, h7, hc1, hc2, hl, HB⟩ := H1.swap.buf
 refine iU O (bT O (cO O (aT (kE aB O) (cO O (aT (gY O O (by omega)) (aT (gY O O (by omega)) (jT (XT HB aB zf O O (by omega) (by omega) (by omega)) ?_)))))))
 rintro v w2 H2
 rw [e1] at H2
 have hm : (List.replicate (L.length + r + 16) (0 : Int)).length = L.length + r + 16 := by simp
 obtain ⟨av, cv, hv, hcv, hcv2, _⟩ := (H2.aJ).form
 rw [hm] at hv hcv
 subst hv
 refine dM O (bg 1 bV O bI O (aH (iQ H2.swap bI O O O (by rw [rQ]; decide)) ?_))
 rintro _ w3 H3
 rw [acq] at H3
 refine qG O (kY O O (bg 2 bV O ah O (aH (iQ H3 ah O O O (by rw [rQ]; decide)) ?_)))
 rintro _ w4 H4
 rw [Ij] at H4
 refine qG O (kY O O (bg 1 bV O bI O (dQ aB O H4.get.2 O (aT (kE aB O) (cO O (aT (kE aB O) (cO O (aT (nN O O (by omega)) (aT (nN O O (by omega)) (dM O (bg 3 bV O ah O (aH (iQ H4 ah O O O (by rw [rQ]; decide)) ?_))))))))))))
 rintro _ w5 H5
 rw [LQ, show (((L.length + r + 16 : Nat) : Int) - ((L.length : Int) - (i : Int))) = ((i + r + 16 : Nat) : Int) from by omega] at H5
 have hb3 := H5.get.2
 refine uV ?_
 refine vU (n := 8) [0, 1, 2, 3, 4, 5, 6, 7] (fun W => W.heap[p]? = some (.cells (lQ (.slice av (L.length + r + 16) cv) i (i + r + 16 : Nat) pt mk) 168 (0, 0))) (by kernel_rfl) (by kernel_rfl) O ?_
 have hS0 : (fun W => W.heap[p]? = some (.cells (lQ (.slice av (L.length + r + 16) cv) i (i + r + 16 : Nat) pt mk) 168 (0, 0))) (w5.drew) := hb3
 have H4d := H5.drew
 refine fM 0 O hS0 O (jF 1 O hS0 O (eP 2 O hS0 1 bV O bI O (iD 3 O hS0 (fun W hW => jk aB O hW O) (fM 4 O hS0 O (fM 5 O hS0 O (iE 6 O hS0 (fun _ => zy aB jU O O O (by omega)) ?_))))))
 refine lC 7 O (Ju (i := 0) (m := L.take i) H4d.swap (mP.upto H4d.r4.aJ (by omega)) aB (by kernel_rfl) (by rw [hm, ZY]; rfl) O (by simp; omega)) ?_
 rintro _ w6 ⟨rfl, H6⟩
 have hm2 : (lX (List.replicate (L.length + r + 16) (0 : Int)) 0 (L.take i)).length = L.length + r + 16 := by rw [je] <;> simp; omega
 refine OY (by kernel_rfl) ?_
 refine oH (aZ ?_)
 refine vU (n := 13) [0, 1, 2, 3, 4, 5, 6, 7, 8, 9, 10, 11, 12] (fun W => W.heap[p]? = some (.cells (lQ (.slice av (L.length + r + 16) cv) i (i + r + 16 : Nat) pt mk) 168 (0, 0))) (by kernel_rfl) (by kernel_rfl) O ?_
 have hS0 : (fun W => W.heap[p]? = some (.cells (lQ (.slice av (L.length + r + 16) cv) i (i + r + 16 : Nat) pt mk) 168 (0, 0))) (w6.drew) := H6.swap.get.2
 have H5d := H6.drew
 refine fM 0 O hS0 O (jF 1 O hS0 O (eP 2 O hS0 1 bV O bI O (iD 3 O hS0 (fun W hW => jk aB O hW O) (fM 4 O hS0 O (jF 5 O hS0 O (eP 6 O hS0 3 bV O ah O (iD 7 O hS0 (fun W hW => jk ay O hW O) (iE 8 O hS0 (fun _ => zy aB jU O O O (by omega)) ?_))))))))
 refine fM 9 O hS0 O (fM 10 O hS0 O (iE 11 O hS0 (fun _ => zy aB jU O O O (by omega)) ?_))
 refine lC 12 O (Ju (i := i + r + 16) (m := L.drop i) H5d (mP.from H5d.r4.aJ (by omega)) aB (by kernel_rfl) (by rw [hm2]; rfl) O (by rw [hm2]; simp; omega)) ?_
 rintro _ w7 ⟨rfl, H7⟩
 refine OY (by kernel_rfl) ?_
 refine oH (nJ (.inr O) results176 ?_)
 exact ⟨_, H7.swap.PU.right.PU.right⟩
theorem vY (H : V w0 w (jC p L pt mk • F)) : iK prog 136 #[.pointer (some ⟨p, 0, none⟩)] w fun v w' => v = .bool false ∧ w = w' := by
  obtain ⟨a, c, xs, f, t, h1, h2, h3, h4, h5, h6, h7, hc1, hc2, hl, H1⟩ := H.buf
  exact Bv _ H1.get.2 rfl
def fK (pt i j n : Int) : Int := if j < pt then pt + (n - (j - i)) else if i ≤ pt then i + n else pt
def fQ (mk i j n : Int) : Int := if j < mk then mk + (n - (j - i)) else if i < mk then i else mk
def iq (at_ : Int) (d i : Value) : Array Value := #[.int .i64 at_, d, i]
theorem nK {at_ : Int} {d i : Value} (hd : d.oneCell' = true) (hi : i.oneCell' = true) : ∀ v ∈ (iq at_ d i).toList, v.oneCell' = true := by
  intro v hv
  simp [iq] at hv
  rcases hv with rfl | rfl | rfl <;> first | rfl | assumption
variable {v : Value} {l : List Int} {i j : Int}
theorem P8 (H : V w0 w (jC p L pt mk • F)) (hr : jZ w0 F .i32 v l) (hb : i < 0 ∨ L.length < i ∨ j < i ∨ L.length < j) :
  iK prog 137 #[.pointer (some ⟨p, 0, none⟩), .int .i64 i, .int .i64 j, v] w fun v' w' => v' = .tuple #[.agg (iq 0 (.slice none 0 0) (.slice none 0 0)), .int .i64 70] ∧ V w0 w' (jC p L pt mk • F) := by
 obtain ⟨a, c, rfl, _, _, _⟩ := (hr w H.right).open
 refine MJ func137 ntmps137 ?_
 refine kQ (jT (Bc H cZ) ?_)
 rintro _ w1 ⟨b1, rfl, H1⟩
 refine iU O (bT O (fH O func73 (tJ H1.right) ?_))
 rintro _ w2 ⟨rfl, hD⟩
 have HL := H1.yg hD
 refine vI O (bK (bT O (fH O func136 (vY HL.right) ?_)))
 rintro _ _ ⟨rfl, rfl⟩
 refine iU O (dw O (fun h1 => ?_) (fun h1 => ?_))
 ·(try simp only [aG] at h1)
  exfalso; first | contradiction | omega
 ·(try simp only [aG] at h1)
  refine bT O (aT (fJ O O) (nS O (fun h2 => ?_) (fun h2 => ?_)))
  ·(try simp only [aG] at h2)
   refine dB (dB (dB (mQ O O (cO O (dB (dB (dB (mQ O O (cO O (dB (dB (dB (mQ O O (iU O (DZ (kQ (aT (kS (pl := #[(0, 1), (1, 1), (2, 1)]) (iq 0 (.slice none 0 0) (.slice none 0 0)) aQ cZ (fun w => by kernel_rfl) O (by kernel_rfl)) (aH (fC (cs := iq 0 (.slice none 0 0) (.slice none 0 0)) HL bM O O O O (nK O O)) ?_))))))))))))))))))
   rintro _ w5 H5
   refine iJ O (aY (aC ?_))
   refine lM (.inl O) oz O O aQ O (by rw [pq]; rfl) H5.get.2 ?_
   exact ⟨O, H5.right⟩
  ·(try simp only [aG] at h2)
   refine bJ (cO O (bJ (cO O (bJ (aT (fZ O O) (kP O O (nS O (fun h3 => ?_) (fun h3 => ?_))))))))
   ·(try simp only [aG] at h3)
    refine dB (dB (dB (mQ O O (cO O (dB (dB (dB (mQ O O (iU O (DZ (kQ (aT (kS (pl := #[(0, 1), (1, 1), (2, 1)]) (iq 0 (.slice none 0 0) (.slice none 0 0)) aQ cZ (fun w => by kernel_rfl) O (by kernel_rfl)) (aH (fC (cs := iq 0 (.slice none 0 0) (.slice none 0 0)) HL bM O O O O (nK O O)) ?_)))))))))))))
    rintro _ w6 H6
    refine iJ O (aY (aC ?_))
    refine lM (.inl O) oz O O aQ O (by rw [pq]; rfl) H6.get.2 ?_
    exact ⟨O, H6.right⟩
   ·(try simp only [aG] at h3)
    refine bJ (cO O (bJ (cO O (bJ (aT (fJ O O) (kP O O (nS O (fun h4 => ?_) (fun h4 => ?_))))))))
    ·(try simp only [aG] at h4)
     refine dB (dB (dB (mQ O O (iU O (DZ (kQ (aT (kS (pl := #[(0, 1), (1, 1), (2, 1)]) (iq 0 (.slice none 0 0) (.slice none 0 0)) aQ cZ (fun w => by kernel_rfl) O (by kernel_rfl)) (aH (fC (cs := iq 0 (.slice none 0 0) (.slice none 0 0)) HL bM O O O O (nK O O)) ?_))))))))
     rintro _ w7 H7
     refine iJ O (aY (aC ?_))
     refine lM (.inl O) oz O O aQ O (by rw [pq]; rfl) H7.get.2 ?_
     exact ⟨O, H7.right⟩
    ·(try simp only [aG] at h4)
     refine bJ (cO O (bJ (cO O (bJ (aT (fZ O O) (kP O O (iU O (wcA O (fun h5 => ?_)))))))))
     (try simp only [aG] at h5)
     refine kQ (aT (kS (pl := #[(0, 1), (1, 1), (2, 1)]) (iq 0 (.slice none 0 0) (.slice none 0 0)) aQ cZ (fun w => by kernel_rfl) O (by kernel_rfl)) (aH (fC (cs := iq 0 (.slice none 0 0) (.slice none 0 0)) HL bM O O O O (nK O O)) ?_))
     rintro _ w8 H8
     refine iJ O (aY (aC ?_))
     refine lM (.inl O) oz O O aQ O (by rw [pq]; rfl) H8.get.2 ?_
     exact ⟨O, H8.right⟩
theorem Ov (H : V w0 w (jC p L pt mk • F)) (hr : jZ w0 F .i32 v l) (hb : 0 ≤ i ∧ i ≤ j ∧ j ≤ L.length) (hl : 1024 < L.length - (j - i) + l.length) :
  iK prog 137 #[.pointer (some ⟨p, 0, none⟩), .int .i64 i, .int .i64 j, v] w fun v' w' => v' = .tuple #[.agg (iq 0 (.slice none 0 0) (.slice none 0 0)), .int .i64 3] ∧ V w0 w' (jC p L pt mk • F) := by
 obtain ⟨a, c, rfl, _, _, _⟩ := (hr w H.right).open
 have hL4 : L.length ≤ 1024 := by obtain ⟨a, c, xs, f, t, h1, h2, h3, h4, h5, h6, h7, hc1, hc2, hl, H1⟩ := H.buf; exact h4
 refine MJ func137 ntmps137 ?_
 refine kQ (jT (Bc H cZ) ?_)
 rintro _ w1 ⟨b1, rfl, H1⟩
 refine iU O (bT O (fH O func73 (tJ H1.right) ?_))
 rintro _ w2 ⟨rfl, hD⟩
 have HL := H1.yg hD
 refine vI O (bK (bT O (fH O func136 (vY HL.right) ?_)))
 rintro _ _ ⟨rfl, rfl⟩
 refine iU O (dw O (fun h1 => ?_) (fun h1 => ?_))
 ·(try simp only [aG] at h1)
  exfalso; first | contradiction | omega
 ·(try simp only [aG] at h1)
  refine bT O (aT (fJ O O) (nS O (fun h2 => ?_) (fun h2 => ?_)))
  ·(try simp only [aG] at h2)
   exfalso; first | contradiction | omega
  ·(try simp only [aG] at h2)
   refine bJ (cO O (bJ (cO O (bJ (aT (fZ O O) (kP O O (nS O (fun h3 => ?_) (fun h3 => ?_))))))))
   ·(try simp only [aG] at h3)
    exfalso; first | contradiction | omega
   ·(try simp only [aG] at h3)
    refine bJ (cO O (bJ (cO O (bJ (aT (fJ O O) (kP O O (nS O (fun h4 => ?_) (fun h4 => ?_))))))))
    ·(try simp only [aG] at h4)
     exfalso; first | contradiction | omega
    ·(try simp only [aG] at h4)
     refine bJ (cO O (bJ (cO O (bJ (aT (fZ O O) (kP O O (iU O (VR O (fun h5 => ?_)))))))))
     (try simp only [aG] at h5)
     refine bT O (aT (kE aB O) (ku O O (cO O (aT (nN O O (by omega)) (aT (nN O O (by omega)) (aT (nN O O (by omega)) (aT (fZ O O) (iU O (wcA O (fun h6 => ?_))))))))))
     (try simp only [aG] at h6)
     refine kQ (aT (kS (pl := #[(0, 1), (1, 1), (2, 1)]) (iq 0 (.slice none 0 0) (.slice none 0 0)) aQ cZ (fun w => by kernel_rfl) O (by kernel_rfl)) (aH (fC (cs := iq 0 (.slice none 0 0) (.slice none 0 0)) HL bM O O O O (nK O O)) ?_))
     rintro _ w8 H8
     refine iJ O (aY (aC ?_))
     refine lM (.inl O) oz O O aQ O (by rw [pq]; rfl) H8.get.2 ?_
     exact ⟨O, H8.right⟩
end
section
variable {w0 w : World} {F : HP} {p : Nat} {L : List Int} {pt mk : Int} {v : Value} {l : List Int} {i j : Int}
theorem Rx {i j : Nat} (H : V w0 w (jC p L pt mk • F)) (hr : jZ w0 F .i32 v l) (hb : i ≤ j ∧ j ≤ L.length) (hl : (L.length : Int) - ((j : Int) - i) + l.length ≤ 1024) :
    iK prog 137 #[.pointer (some ⟨p, 0, none⟩), .int .i64 i, .int .i64 j, v] w fun v' w' => ∃ d s, v' = .tuple #[.agg (iq i d s), .int .i64 0] ∧
      V w0 w' (kF 21 .i32 d ((L.drop i).take (j - i)) • kF 21 .i32 s l • jC p (L.take i ++ l ++ L.drop j) (fK pt i j l.length) (fQ mk i j l.length) • F) := by
  obtain ⟨a, c, rfl, hac, aks, _⟩ := (hr w H.right).open
  obtain ⟨hL4, hpt, hmk⟩ : L.length ≤ 1024 ∧ (0 ≤ pt ∧ pt ≤ L.length) ∧ (-1 ≤ mk ∧ mk ≤ L.length) := by obtain ⟨a, c, xs, f, t, h1, h2, h3, h4, h5, h6, h7, hc1, hc2, hl, H1⟩ := H.buf; exact ⟨h4, h6, h7⟩
  have hg1 := aag (L := L) (i := i) (r := l.length) (by omega)
  have hg2 := X7 (L := L) (i := i) (r := l.length) (by omega)
  have hg3 := X8 (L := L) (i := i) (r := l.length) (by omega)
  have hL' : L.take i ++ l ++ L.drop j = (lX (qy L i l.length) i l).take (i + l.length) ++ (lX (qy L i l.length) i l).drop (i + l.length + 16 + (j - i)) := by
    rw [O8 (by omega), X6 (by omega) (by omega), hg2]
    congr 1
    rw [← List.drop_drop, hg3, List.drop_drop]
    congr 1; omega
  have hlen' : (L.take i ++ l ++ L.drop j).length = L.length - (j - i) + l.length := by simp; omega
  refine MJ func137 ntmps137 ?_
  refine kQ (jT (Bc H cZ) ?_)
  rintro _ w1 ⟨b1, rfl, H1⟩
  refine iU O (bT O (fH O func73 (tJ H1.right) ?_))
  rintro _ w2 ⟨rfl, hD⟩
  have HL := H1.yg hD
  refine vI O (bK (bT O (fH O func136 (vY HL.right) ?_)))
  rintro _ _ ⟨rfl, rfl⟩
  refine iU O (dw O (fun h1 => ?_) (fun h1 => ?_))
  · (try simp only [aG] at h1)
    exfalso; first | contradiction | omega
  · (try simp only [aG] at h1)
    refine bT O (aT (fJ O O) (nS O (fun h2 => ?_) (fun h2 => ?_)))
    · (try simp only [aG] at h2)
      exfalso; first | contradiction | omega
    · (try simp only [aG] at h2)
      refine bJ (cO O (bJ (cO O (bJ (aT (fZ O O) (kP O O (nS O (fun h3 => ?_) (fun h3 => ?_))))))))
      · (try simp only [aG] at h3)
        exfalso; first | contradiction | omega
      · (try simp only [aG] at h3)
        refine bJ (cO O (bJ (cO O (bJ (aT (fJ O O) (kP O O (nS O (fun h4 => ?_) (fun h4 => ?_))))))))
        · (try simp only [aG] at h4)
          exfalso; first | contradiction | omega
        · (try simp only [aG] at h4)
          refine bJ (cO O (bJ (cO O (bJ (aT (fZ O O) (kP O O (iU O (VR O (fun h5 => ?_)))))))))
          (try simp only [aG] at h5)
          refine bT O (aT (kE aB O) (ku O O (cO O (aT (nN O O (by omega)) (aT (nN O O (by omega)) (aT (nN O O (by omega)) (aT (fZ O O) (iU O (VR O (fun h6 => ?_))))))))))
          (try simp only [aG] at h6)
          refine eG (aS (aZ (bT O (cO O (fH O func154 (yF HL.swap) ?_)))))
          rintro u w8 H8
          obtain ⟨au, cu, hu, _⟩ := (H8.aJ).form
          subst hu
          refine ku O O (aT (zy aB jU O O O (by omega)) ?_)
          refine fH O func144 (Aw H8 (fun W HW => mP.cut HW.aJ (i := i) (j := j) (by omega) (by omega)) (by simp; omega)) ?_
          rintro d w9 H9
          have HC := H9.swap.right
          obtain ⟨ad, cd, hd, _⟩ := (HC.aJ).form
          subst hd
          refine cO O (fH O func144 (Aw HC hr.under.under.under (by omega)) ?_)
          rintro s w10 rU
          obtain ⟨ai, ci, hs, _⟩ := (rU.aJ).form
          subst hs
          refine aT (kS (pl := #[(0, 1), (1, 1), (2, 1)]) (iq i (.slice ad ((L.drop i).take (j - i)).length cd) (.slice ai l.length ci)) aQ cZ (fun w => by kernel_rfl) O (by kernel_rfl)) (jT (Bc rU cZ) ?_)
          rintro _ Ii ⟨b11, rfl, rE⟩
          refine aH (fC (cs := iq i (.slice ad ((L.drop i).take (j - i)).length cd) (.slice ai l.length ci)) rE bM O O O O (nK O O)) ?_
          rintro _ w12 uP
          refine qG O (ku O O (aT (kE aB O) (fH O func176 (V8 uP.r4 (by omega) (by omega)) ?_)))
          rintro _ P7 ⟨x, AZ⟩
          obtain ⟨ax, cx, hx, _⟩ := (AZ.swap.aJ).form
          subst hx
          refine qG O (dM O (bg 3 bV O ah O (dQ ay O AZ.get.2 O (ku O O (aT (nN O O (by omega)) (aT (gY O O (by omega)) (dM O (bg 3 bV O ah O (aH (iQ AZ ah O O O (by rw [rQ]; decide)) ?_)))))))))
          rintro _ O9 BJ
          rw [LQ] at BJ
          have akt := BJ.get.2
          refine uV ?_
          refine vU (n := 11) [0, 1, 2, 3, 4, 5, 6, 7, 8, 9, 10] (fun W => W.heap[p]? = some (.cells (lQ (.slice ax (qy L i l.length).length cx) i ((i + l.length + 16 : Nat) + ((j : Int) - i)) pt mk) 168 (0, 0))) (by kernel_rfl) (by kernel_rfl) O ?_
          have hS0 : (fun W => W.heap[p]? = some (.cells (lQ (.slice ax (qy L i l.length).length cx) i ((i + l.length + 16 : Nat) + ((j : Int) - i)) pt mk) 168 (0, 0))) (O9.drew) := akt
          have adV := BJ.drew
          refine fM 0 O hS0 O (jF 1 O hS0 O (eP 2 O hS0 1 bV O bI O (iD 3 O hS0 (fun W hW => jk aB O hW O) (fM 4 O hS0 O (jF 5 O hS0 O (eP 6 O hS0 2 bV O ah O (iD 7 O hS0 (fun W hW => jk ay O hW O) (iE 8 O hS0 (fun _ => zy aB jU O O O (by omega)) ?_))))))))
          refine fM 9 O hS0 O (lC 10 O (Ju (i := i) (m := l) adV.swap (hr _ adV.right.right.right.right.right.right) aB (by kernel_rfl) O O (by omega)) ?_)
          rintro _ Ry ⟨rfl, CJ⟩
          have HS := CJ.swap
          refine OY (by kernel_rfl) ?_
          refine oH (aZ (bT O (dM O (bg 2 bV O ah O (dQ ay O HS.get.2 O (cO O (aT (kE aB O) (aT (gY O O (by omega)) (dM O (bg 2 bV O ah O (aH (iQ HS ah O O O (by rw [rQ]; decide)) ?_)))))))))))
          rintro _ w16 yG
          rw [Ij] at yG
          refine uV (bK (bT O (dM O (bg 4 bV O ah O (dQ ay O yG.get.2 O (cO O (aT (fZ O O) (iU O (dw O (fun h7 => ?_) (fun h7 => ?_))))))))))
          · (try simp only [aG] at h7)
            refine aF (kY O O (bg 4 bV O ah O (dQ ay O yG.get.2 O (cO O (aT (kE aB O) (ku O O (aT (nN O O (by omega)) (aT (nN O O (by omega)) (aT (gY O O (by omega)) (dM O (bg 4 bV O ah O (aH (iQ yG ah O O O (by rw [rQ]; decide)) ?_))))))))))))
            rintro _ ZI DL
            rw [F6] at DL
            refine dJ (aS (aZ (aI (bK (bT O (dM O (bg 5 bV O ah O (dQ ay O DL.get.2 O (cO O (aT (fZ O O) (iU O (dw O (fun h8 => ?_) (fun h8 => ?_)))))))))))))
            · (try simp only [aG] at h8)
              refine aF (kY O O (bg 5 bV O ah O (dQ ay O DL.get.2 O (cO O (aT (kE aB O) (ku O O (aT (nN O O (by omega)) (aT (nN O O (by omega)) (aT (gY O O (by omega)) (dM O (bg 5 bV O ah O (aH (iQ DL ah O O O (by rw [rQ]; decide)) ?_))))))))))))
              rintro _ U5 DN
              rw [zB] at DN
              refine dJ (aS (aZ (aI ?_)))
              have xZ := DN.PU
              refine aF (aT (dU aQ O bM O O xZ.get.2) (aH (fC (cs := iq i (.slice ad ((L.drop i).take (j - i)).length cd) (.slice ai l.length ci)) xZ.r6 bM O O O O (nK O O)) ?_))
              rintro _ X9 Df
              refine iJ O ?_
              refine lM (.inl O) oz O O aQ O (by rw [pq]; rfl) Df.get.2 ?_
              refine ⟨_, _, O, ?_⟩
              first
                | rw [show fK pt i j l.length = pt + ((l.length : Int) - ((j : Int) - i)) from by unfold fK; rw [if_pos (by omega)]]
                | rw [show fK pt i j l.length = (i : Int) + l.length from by unfold fK; rw [if_neg (by omega), if_pos (by omega)]]
                | rw [show fK pt i j l.length = pt from by unfold fK; rw [if_neg (by omega), if_neg (by omega)]]
              first
                | rw [show fQ mk i j l.length = mk + ((l.length : Int) - ((j : Int) - i)) from by unfold fQ; rw [if_pos (by omega)]]
                | rw [show fQ mk i j l.length = (i : Int) from by unfold fQ; rw [if_neg (by omega), if_pos (by omega)]]
                | rw [show fQ mk i j l.length = mk from by unfold fQ; rw [if_neg (by omega), if_neg (by omega)]]
              refine (V.zh (f := i + l.length) (t := i + l.length + 16 + (j - i)) (v := .slice ax (qy L i l.length).length cx) (xs := lX (qy L i l.length) i l) (by omega) (by rw [je (by omega)]; omega) hL' (by omega) (by rw [je (by omega)]; omega) (by omega) (by omega) ?_).d3.swap
              rw [show ((i + l.length : Nat) : Int) = (i : Int) + l.length from by omega, show ((i + l.length + 16 + (j - i) : Nat) : Int) = ((i + l.length + 16 : Nat) : Int) + ((j : Int) - i) from by omega]
              exact Df.right.right
            · (try simp only [aG] at h8)
              refine bT O (dM O (bg 5 bV O ah O (dQ ay O DL.get.2 O (cO O (aT (fZ O O) (iU O (dw O (fun h9 => ?_) (fun h9 => ?_))))))))
              · (try simp only [aG] at h9)
                refine aF (ku O O (dM O (bg 5 bV O ah O (aH (iQ DL ah O O O (by rw [rQ]; decide)) ?_))))
                rintro _ ZJ DR
                rw [zB] at DR
                refine dJ (aS (aZ (aI ?_)))
                have xZ := DR.PU
                refine aF (aT (dU aQ O bM O O xZ.get.2) (aH (fC (cs := iq i (.slice ad ((L.drop i).take (j - i)).length cd) (.slice ai l.length ci)) xZ.r6 bM O O O O (nK O O)) ?_))
                rintro _ Ya xZ
                refine iJ O ?_
                refine lM (.inl O) oz O O aQ O (by rw [pq]; rfl) xZ.get.2 ?_
                refine ⟨_, _, O, ?_⟩
                first
                  | rw [show fK pt i j l.length = pt + ((l.length : Int) - ((j : Int) - i)) from by unfold fK; rw [if_pos (by omega)]]
                  | rw [show fK pt i j l.length = (i : Int) + l.length from by unfold fK; rw [if_neg (by omega), if_pos (by omega)]]
                  | rw [show fK pt i j l.length = pt from by unfold fK; rw [if_neg (by omega), if_neg (by omega)]]
                first
                  | rw [show fQ mk i j l.length = mk + ((l.length : Int) - ((j : Int) - i)) from by unfold fQ; rw [if_pos (by omega)]]
                  | rw [show fQ mk i j l.length = (i : Int) from by unfold fQ; rw [if_neg (by omega), if_pos (by omega)]]
                  | rw [show fQ mk i j l.length = mk from by unfold fQ; rw [if_neg (by omega), if_neg (by omega)]]
                refine (V.zh (f := i + l.length) (t := i + l.length + 16 + (j - i)) (v := .slice ax (qy L i l.length).length cx) (xs := lX (qy L i l.length) i l) (by omega) (by rw [je (by omega)]; omega) hL' (by omega) (by rw [je (by omega)]; omega) (by omega) (by omega) ?_).d3.swap
                rw [show ((i + l.length : Nat) : Int) = (i : Int) + l.length from by omega, show ((i + l.length + 16 + (j - i) : Nat) : Int) = ((i + l.length + 16 : Nat) : Int) + ((j : Int) - i) from by omega]
                exact xZ.right.right
              · (try simp only [aG] at h9)
                refine eG (aS (aZ (aI ?_)))
                have xZ := DL.PU
                refine aF (aT (dU aQ O bM O O xZ.get.2) (aH (fC (cs := iq i (.slice ad ((L.drop i).take (j - i)).length cd) (.slice ai l.length ci)) xZ.r6 bM O O O O (nK O O)) ?_))
                rintro _ w22 FI
                refine iJ O ?_
                refine lM (.inl O) oz O O aQ O (by rw [pq]; rfl) FI.get.2 ?_
                refine ⟨_, _, O, ?_⟩
                first
                  | rw [show fK pt i j l.length = pt + ((l.length : Int) - ((j : Int) - i)) from by unfold fK; rw [if_pos (by omega)]]
                  | rw [show fK pt i j l.length = (i : Int) + l.length from by unfold fK; rw [if_neg (by omega), if_pos (by omega)]]
                  | rw [show fK pt i j l.length = pt from by unfold fK; rw [if_neg (by omega), if_neg (by omega)]]
                first
                  | rw [show fQ mk i j l.length = mk + ((l.length : Int) - ((j : Int) - i)) from by unfold fQ; rw [if_pos (by omega)]]
                  | rw [show fQ mk i j l.length = (i : Int) from by unfold fQ; rw [if_neg (by omega), if_pos (by omega)]]
                  | rw [show fQ mk i j l.length = mk from by unfold fQ; rw [if_neg (by omega), if_neg (by omega)]]
                refine (V.zh (f := i + l.length) (t := i + l.length + 16 + (j - i)) (v := .slice ax (qy L i l.length).length cx) (xs := lX (qy L i l.length) i l) (by omega) (by rw [je (by omega)]; omega) hL' (by omega) (by rw [je (by omega)]; omega) (by omega) (by omega) ?_).d3.swap
                rw [show ((i + l.length : Nat) : Int) = (i : Int) + l.length from by omega, show ((i + l.length + 16 + (j - i) : Nat) : Int) = ((i + l.length + 16 : Nat) : Int) + ((j : Int) - i) from by omega]
                exact FI.right.right
          · (try simp only [aG] at h7)
            refine bT O (dM O (bg 4 bV O ah O (dQ ay O yG.get.2 O (cO O (aT (vT O O) (iU O (dw O (fun h10 => ?_) (fun h10 => ?_))))))))
            · (try simp only [aG] at h10)
              refine aF (ku O O (cO O (aT (kE aB O) (aT (gY O O (by omega)) (dM O (bg 4 bV O ah O (aH (iQ yG ah O O O (by rw [rQ]; decide)) ?_)))))))
              rintro _ Yb BM
              rw [F6] at BM
              refine dJ (aS (aZ (aI (bK (bT O (dM O (bg 5 bV O ah O (dQ ay O BM.get.2 O (cO O (aT (fZ O O) (iU O (dw O (fun h11 => ?_) (fun h11 => ?_)))))))))))))
              · (try simp only [aG] at h11)
                refine aF (kY O O (bg 5 bV O ah O (dQ ay O BM.get.2 O (cO O (aT (kE aB O) (ku O O (aT (nN O O (by omega)) (aT (nN O O (by omega)) (aT (gY O O (by omega)) (dM O (bg 5 bV O ah O (aH (iQ BM ah O O O (by rw [rQ]; decide)) ?_))))))))))))
                rintro _ w24 Hw
                rw [zB] at Hw
                refine dJ (aS (aZ (aI ?_)))
                have xZ := Hw.PU
                refine aF (aT (dU aQ O bM O O xZ.get.2) (aH (fC (cs := iq i (.slice ad ((L.drop i).take (j - i)).length cd) (.slice ai l.length ci)) xZ.r6 bM O O O O (nK O O)) ?_))
                rintro _ w25 Jo
                refine iJ O ?_
                refine lM (.inl O) oz O O aQ O (by rw [pq]; rfl) Jo.get.2 ?_
                refine ⟨_, _, O, ?_⟩
                first
                  | rw [show fK pt i j l.length = pt + ((l.length : Int) - ((j : Int) - i)) from by unfold fK; rw [if_pos (by omega)]]
                  | rw [show fK pt i j l.length = (i : Int) + l.length from by unfold fK; rw [if_neg (by omega), if_pos (by omega)]]
                  | rw [show fK pt i j l.length = pt from by unfold fK; rw [if_neg (by omega), if_neg (by omega)]]
                first
                  | rw [show fQ mk i j l.length = mk + ((l.length : Int) - ((j : Int) - i)) from by unfold fQ; rw [if_pos (by omega)]]
                  | rw [show fQ mk i j l.length = (i : Int) from by unfold fQ; rw [if_neg (by omega), if_pos (by omega)]]
                  | rw [show fQ mk i j l.length = mk from by unfold fQ; rw [if_neg (by omega), if_neg (by omega)]]
                refine (V.zh (f := i + l.length) (t := i + l.length + 16 + (j - i)) (v := .slice ax (qy L i l.length).length cx) (xs := lX (qy L i l.length) i l) (by omega) (by rw [je (by omega)]; omega) hL' (by omega) (by rw [je (by omega)]; omega) (by omega) (by omega) ?_).d3.swap
                rw [show ((i + l.length : Nat) : Int) = (i : Int) + l.length from by omega, show ((i + l.length + 16 + (j - i) : Nat) : Int) = ((i + l.length + 16 : Nat) : Int) + ((j : Int) - i) from by omega]
                exact Jo.right.right
              · (try simp only [aG] at h11)
                refine bT O (dM O (bg 5 bV O ah O (dQ ay O BM.get.2 O (cO O (aT (fZ O O) (iU O (dw O (fun h12 => ?_) (fun h12 => ?_))))))))
                · (try simp only [aG] at h12)
                  refine aF (ku O O (dM O (bg 5 bV O ah O (aH (iQ BM ah O O O (by rw [rQ]; decide)) ?_))))
                  rintro _ w26 FK
                  rw [zB] at FK
                  refine dJ (aS (aZ (aI ?_)))
                  have xZ := FK.PU
                  refine aF (aT (dU aQ O bM O O xZ.get.2) (aH (fC (cs := iq i (.slice ad ((L.drop i).take (j - i)).length cd) (.slice ai l.length ci)) xZ.r6 bM O O O O (nK O O)) ?_))
                  rintro _ w27 KT
                  refine iJ O ?_
                  refine lM (.inl O) oz O O aQ O (by rw [pq]; rfl) KT.get.2 ?_
                  refine ⟨_, _, O, ?_⟩
                  first
                    | rw [show fK pt i j l.length = pt + ((l.length : Int) - ((j : Int) - i)) from by unfold fK; rw [if_pos (by omega)]]
                    | rw [show fK pt i j l.length = (i : Int) + l.length from by unfold fK; rw [if_neg (by omega), if_pos (by omega)]]
                    | rw [show fK pt i j l.length = pt from by unfold fK; rw [if_neg (by omega), if_neg (by omega)]]
                  first
                    | rw [show fQ mk i j l.length = mk + ((l.length : Int) - ((j : Int) - i)) from by unfold fQ; rw [if_pos (by omega)]]
                    | rw [show fQ mk i j l.length = (i : Int) from by unfold fQ; rw [if_neg (by omega), if_pos (by omega)]]
                    | rw [show fQ mk i j l.length = mk from by unfold fQ; rw [if_neg (by omega), if_neg (by omega)]]
                  refine (V.zh (f := i + l.length) (t := i + l.length + 16 + (j - i)) (v := .slice ax (qy L i l.length).length cx) (xs := lX (qy L i l.length) i l) (by omega) (by rw [je (by omega)]; omega) hL' (by omega) (by rw [je (by omega)]; omega) (by omega) (by omega) ?_).d3.swap
                  rw [show ((i + l.length : Nat) : Int) = (i : Int) + l.length from by omega, show ((i + l.length + 16 + (j - i) : Nat) : Int) = ((i + l.length + 16 : Nat) : Int) + ((j : Int) - i) from by omega]
                  exact KT.right.right
                · (try simp only [aG] at h12)
                  refine eG (aS (aZ (aI ?_)))
                  have xZ := BM.PU
                  refine aF (aT (dU aQ O bM O O xZ.get.2) (aH (fC (cs := iq i (.slice ad ((L.drop i).take (j - i)).length cd) (.slice ai l.length ci)) xZ.r6 bM O O O O (nK O O)) ?_))
                  rintro _ w28 Rz
                  refine iJ O ?_
                  refine lM (.inl O) oz O O aQ O (by rw [pq]; rfl) Rz.get.2 ?_
                  refine ⟨_, _, O, ?_⟩
                  first
                    | rw [show fK pt i j l.length = pt + ((l.length : Int) - ((j : Int) - i)) from by unfold fK; rw [if_pos (by omega)]]
                    | rw [show fK pt i j l.length = (i : Int) + l.length from by unfold fK; rw [if_neg (by omega), if_pos (by omega)]]
                    | rw [show fK pt i j l.length = pt from by unfold fK; rw [if_neg (by omega), if_neg (by omega)]]
                  first
                    | rw [show fQ mk i j l.length = mk + ((l.length : Int) - ((j : Int) - i)) from by unfold fQ; rw [if_pos (by omega)]]
                    | rw [show fQ mk i j l.length = (i : Int) from by unfold fQ; rw [if_neg (by omega), if_pos (by omega)]]
                    | rw [show fQ mk i j l.length = mk from by unfold fQ; rw [if_neg (by omega), if_neg (by omega)]]
                  refine (V.zh (f := i + l.length) (t := i + l.length + 16 + (j - i)) (v := .slice ax (qy L i l.length).length cx) (xs := lX (qy L i l.length) i l) (by omega) (by rw [je (by omega)]; omega) hL' (by omega) (by rw [je (by omega)]; omega) (by omega) (by omega) ?_).d3.swap
                  rw [show ((i + l.length : Nat) : Int) = (i : Int) + l.length from by omega, show ((i + l.length + 16 + (j - i) : Nat) : Int) = ((i + l.length + 16 : Nat) : Int) + ((j : Int) - i) from by omega]
                  exact Rz.right.right
            · (try simp only [aG] at h10)
              refine eG (aS (aZ (aI (bK (bT O (dM O (bg 5 bV O ah O (dQ ay O yG.get.2 O (cO O (aT (fZ O O) (iU O (dw O (fun h13 => ?_) (fun h13 => ?_)))))))))))))
              · (try simp only [aG] at h13)
                refine aF (kY O O (bg 5 bV O ah O (dQ ay O yG.get.2 O (cO O (aT (kE aB O) (ku O O (aT (nN O O (by omega)) (aT (nN O O (by omega)) (aT (gY O O (by omega)) (dM O (bg 5 bV O ah O (aH (iQ yG ah O O O (by rw [rQ]; decide)) ?_))))))))))))
                rintro _ w29 N9
                rw [zB] at N9
                refine dJ (aS (aZ (aI ?_)))
                have xZ := N9.PU
                refine aF (aT (dU aQ O bM O O xZ.get.2) (aH (fC (cs := iq i (.slice ad ((L.drop i).take (j - i)).length cd) (.slice ai l.length ci)) xZ.r6 bM O O O O (nK O O)) ?_))
                rintro _ w30 P9
                refine iJ O ?_
                refine lM (.inl O) oz O O aQ O (by rw [pq]; rfl) P9.get.2 ?_
                refine ⟨_, _, O, ?_⟩
                first
                  | rw [show fK pt i j l.length = pt + ((l.length : Int) - ((j : Int) - i)) from by unfold fK; rw [if_pos (by omega)]]
                  | rw [show fK pt i j l.length = (i : Int) + l.length from by unfold fK; rw [if_neg (by omega), if_pos (by omega)]]
                  | rw [show fK pt i j l.length = pt from by unfold fK; rw [if_neg (by omega), if_neg (by omega)]]
                first
                  | rw [show fQ mk i j l.length = mk + ((l.length : Int) - ((j : Int) - i)) from by unfold fQ; rw [if_pos (by omega)]]
                  | rw [show fQ mk i j l.length = (i : Int) from by unfold fQ; rw [if_neg (by omega), if_pos (by omega)]]
                  | rw [show fQ mk i j l.length = mk from by unfold fQ; rw [if_neg (by omega), if_neg (by omega)]]
                refine (V.zh (f := i + l.length) (t := i + l.length + 16 + (j - i)) (v := .slice ax (qy L i l.length).length cx) (xs := lX (qy L i l.length) i l) (by omega) (by rw [je (by omega)]; omega) hL' (by omega) (by rw [je (by omega)]; omega) (by omega) (by omega) ?_).d3.swap
                rw [show ((i + l.length : Nat) : Int) = (i : Int) + l.length from by omega, show ((i + l.length + 16 + (j - i) : Nat) : Int) = ((i + l.length + 16 : Nat) : Int) + ((j : Int) - i) from by omega]
                exact P9.right.right
              · (try simp only [aG] at h13)
                refine bT O (dM O (bg 5 bV O ah O (dQ ay O yG.get.2 O (cO O (aT (fZ O O) (iU O (dw O (fun h14 => ?_) (fun h14 => ?_))))))))
                · (try simp only [aG] at h14)
                  refine aF (ku O O (dM O (bg 5 bV O ah O (aH (iQ yG ah O O O (by rw [rQ]; decide)) ?_))))
                  rintro _ w31 TW
                  rw [zB] at TW
                  refine dJ (aS (aZ (aI ?_)))
                  have xZ := TW.PU
                  refine aF (aT (dU aQ O bM O O xZ.get.2) (aH (fC (cs := iq i (.slice ad ((L.drop i).take (j - i)).length cd) (.slice ai l.length ci)) xZ.r6 bM O O O O (nK O O)) ?_))
                  rintro _ w32 TY
                  refine iJ O ?_
                  refine lM (.inl O) oz O O aQ O (by rw [pq]; rfl) TY.get.2 ?_
                  refine ⟨_, _, O, ?_⟩
                  first
                    | rw [show fK pt i j l.length = pt + ((l.length : Int) - ((j : Int) - i)) from by unfold fK; rw [if_pos (by omega)]]
                    | rw [show fK pt i j l.length = (i : Int) + l.length from by unfold fK; rw [if_neg (by omega), if_pos (by omega)]]
                    | rw [show fK pt i j l.length = pt from by unfold fK; rw [if_neg (by omega), if_neg (by omega)]]
                  first
                    | rw [show fQ mk i j l.length = mk + ((l.length : Int) - ((j : Int) - i)) from by unfold fQ; rw [if_pos (by omega)]]
                    | rw [show fQ mk i j l.length = (i : Int) from by unfold fQ; rw [if_neg (by omega), if_pos (by omega)]]
                    | rw [show fQ mk i j l.length = mk from by unfold fQ; rw [if_neg (by omega), if_neg (by omega)]]
                  refine (V.zh (f := i + l.length) (t := i + l.length + 16 + (j - i)) (v := .slice ax (qy L i l.length).length cx) (xs := lX (qy L i l.length) i l) (by omega) (by rw [je (by omega)]; omega) hL' (by omega) (by rw [je (by omega)]; omega) (by omega) (by omega) ?_).d3.swap
                  rw [show ((i + l.length : Nat) : Int) = (i : Int) + l.length from by omega, show ((i + l.length + 16 + (j - i) : Nat) : Int) = ((i + l.length + 16 : Nat) : Int) + ((j : Int) - i) from by omega]
                  exact TY.right.right
                · (try simp only [aG] at h14)
                  refine eG (aS (aZ (aI ?_)))
                  have xZ := yG.PU
                  refine aF (aT (dU aQ O bM O O xZ.get.2) (aH (fC (cs := iq i (.slice ad ((L.drop i).take (j - i)).length cd) (.slice ai l.length ci)) xZ.r6 bM O O O O (nK O O)) ?_))
                  rintro _ w33 ZK
                  refine iJ O ?_
                  refine lM (.inl O) oz O O aQ O (by rw [pq]; rfl) ZK.get.2 ?_
                  refine ⟨_, _, O, ?_⟩
                  first
                    | rw [show fK pt i j l.length = pt + ((l.length : Int) - ((j : Int) - i)) from by unfold fK; rw [if_pos (by omega)]]
                    | rw [show fK pt i j l.length = (i : Int) + l.length from by unfold fK; rw [if_neg (by omega), if_pos (by omega)]]
                    | rw [show fK pt i j l.length = pt from by unfold fK; rw [if_neg (by omega), if_neg (by omega)]]
                  first
                    | rw [show fQ mk i j l.length = mk + ((l.length : Int) - ((j : Int) - i)) from by unfold fQ; rw [if_pos (by omega)]]
                    | rw [show fQ mk i j l.length = (i : Int) from by unfold fQ; rw [if_neg (by omega), if_pos (by omega)]]
                    | rw [show fQ mk i j l.length = mk from by unfold fQ; rw [if_neg (by omega), if_neg (by omega)]]
                  refine (V.zh (f := i + l.length) (t := i + l.length + 16 + (j - i)) (v := .slice ax (qy L i l.length).length cx) (xs := lX (qy L i l.length) i l) (by omega) (by rw [je (by omega)]; omega) hL' (by omega) (by rw [je (by omega)]; omega) (by omega) (by omega) ?_).d3.swap
                  rw [show ((i + l.length : Nat) : Int) = (i : Int) + l.length from by omega, show ((i + l.length + 16 + (j - i) : Nat) : Int) = ((i + l.length + 16 : Nat) : Int) + ((j : Int) - i) from by omega]
                  exact ZK.right.right
end
def mvP (n : Nat) (pt x : Int) : Int := if 0 ≤ x ∧ x ≤ n then x else pt
def mvE (n : Nat) (x : Int) : Int := if 0 ≤ x ∧ x ≤ n then 0 else 70
def oU (v : Value) (pt mk : Int) : Array Value := #[v, .int .i64 pt, .int .i64 mk]
theorem U6 {v : Value} {pt mk : Int} (h : v.oneCell' = true) : ∀ u ∈ (oU v pt mk).toList, u.oneCell' = true := by
  intro u hu
  simp [oU] at hu
  rcases hu with rfl | rfl | rfl
  · exact h
  · rfl
  · rfl
section
variable {w0 w : World} {F : HP} {p : Nat} {L : List Int} {pt mk x : Int} {v : Value} {l : List Int}
theorem V9 (H : V w0 w (jC p L pt mk • F)) : iK prog 84 #[.pointer (some ⟨p, 0, none⟩), .int .i64 x] w fun v w' => v = .int .i64 (mvE L.length x) ∧ V w0 w' (jC p L (mvP L.length pt x) mk • F) := by
 refine nO func84 ntmps84 ?_
 refine kG O (aI (bK (bT O (fH O func136 (vY H) ?_))))
 rintro _ _ ⟨rfl, rfl⟩
 refine iU O (dw O (fun h1 => ?_) (fun h1 => ?_))
 ·(try simp only [aG] at h1)
  exfalso; first | contradiction | omega
 ·(try simp only [aG] at h1)
  refine bT O (aT (fJ O O) (nS O (fun h2 => ?_) (fun h2 => ?_)))
  ·(try simp only [aG] at h2)
   refine dB (dB (dB (dB (mQ O O (iU O (DZ (jE O (aY (aC (dO results84 O ?_))))))))))
   exact ⟨by rw [mvE, if_neg (by omega)], by rw [mvP, if_neg (by omega)]; exact H⟩
  ·(try simp only [aG] at h2)
   refine bJ (cO O (bJ (cO O (bJ (fH O func73 (tJ H) ?_)))))
   rintro _ w2 ⟨rfl, hD⟩
   have HL := H.yg hD
   refine bJ (aT (fZ O O) (kP O O (iU O (dw O (fun h3 => ?_) (fun h3 => ?_)))))
   ·(try simp only [aG] at h3)
    refine jE O (aY (aC (dO results84 O ?_)))
    exact ⟨by rw [mvE, if_neg (by omega)], by rw [mvP, if_neg (by omega)]; exact HL⟩
   ·(try simp only [aG] at h3)
    refine eG (aS (aZ (aI ?_)))
    obtain ⟨a, c, xs, f, t, h11, h12, h13, h14, h15, h16, h17, hc1, hc2, hl, HB⟩ := HL.buf
    refine aF (ku O O (dM O (bg 4 bV O ah O (aH (iQ HB ah O O O (by rw [rQ]; decide)) ?_))))
    rintro _ w3 H3
    rw [F6] at H3
    refine iR (jE O (dO results84 O ?_))
    exact ⟨by rw [mvE, if_pos (by omega)], by rw [mvP, if_pos (by omega)]; exact V.zh h11 h12 h13 h14 h15 (by omega) h17 H3⟩
theorem MZ (H : V w0 w (jC p L pt mk • F)) : iK prog 123 #[.pointer (some ⟨p, 0, none⟩)] w fun v' w' => ∃ u, v' = .agg (oU u pt mk) ∧ V w0 w' (kF 21 .i32 u L • jC p L pt mk • F) := by
 refine jl func123 ntmps123 ?_
 refine kQ (jT (Bc H vZ) ?_)
 rintro _ w1 ⟨b1, rfl, H1⟩
 refine qG O (fH O func154 (yF H1.swap) ?_)
 rintro u w2 H2
 obtain ⟨au, cu, hu, _⟩ := (H2.aJ).form
 subst hu
 refine cO O (fH O func72 (wZ H2.swap) ?_)
 rintro _ _ ⟨rfl, rfl⟩
 refine cO O (fH O func174 (V7 H2.swap) ?_)
 rintro _ _ ⟨rfl, rfl⟩
 refine aT (kS (pl := #[(0, 1), (1, 1), (2, 1)]) (oU (.slice au L.length cu) pt mk) iM vZ (fun w => by kernel_rfl) O (by kernel_rfl)) (aH (fC (cs := oU (.slice au L.length cu) pt mk) H2.PU oV O O O O (U6 O)) ?_)
 rintro _ w5 H5
 refine zkc ?_
 refine abr (.inl O) results123 O iM O (by rw [U7]; rfl) H5.get.2 ?_
 exact ⟨_, O, H5.right⟩
end
end Go.Proofs.YtnhhmieghbfalaaGreatDoor
end
section
namespace Go.Proofs.YtnhhmieghbfalaaGreatDoor
open Go.RowKit
def adW (g : Int → Bool) (l : List Int) (at_ : Nat) : Nat := at_ + ((l.drop at_).takeWhile g).length
def adX (g : Int → Bool) (l : List Int) (at_ : Nat) : Nat := at_ - ((l.take at_).reverse.takeWhile g).length
def Na (n : Nat) (x : Int) : Nat := (min (max x 0) n).toNat
section
variable {w0 w : World} {F G : HP} {v fv : Value} {l : List Int} {g : Int → Bool}
def ai7 (l : List Int) (x : Int) : Nat := adW Qs l (adW (fun r => !Qs r) l (Na l.length x))
def ahB (l : List Int) (x : Int) : Nat := adX Qs l (adX (fun r => !Qs r) l (Na l.length x))
def abB (r : Int) : Bool := decide (adA r ≠ 0) || XV r
def alQ (l : List Int) (x : Int) : Nat := if Na l.length x < l.length then adW (fun r => !abB r) l (Na l.length x + 1) else l.length
def alR (l : List Int) (x : Int) : Nat := adX (fun r => !abB r) l (Na l.length x) - 1
end
section
variable {w0 w : World} {F : HP} {p : Nat} {L : List Int} {pt mk : Int} {v : Value} {l : List Int}
end
end Go.Proofs.YtnhhmieghbfalaaGreatDoor
end
section
namespace Go.Proofs.YtnhhmieghbfalaaGreatDoor
open Go.RowKit
open _root_.Go.Proofs.Tryz
theorem Nb (w : World) (v1 v2 : Value) (l1 l2 : List Int) (h1 : mP w .i32 v1 l1) (h2 : mP w .i32 v2 l2) :
  iK prog 121 #[v1, v2] w fun v w' => v = .bool (l1 == l2) ∧ Cj w w' := by
 obtain ⟨a1, c1, rfl, hc1, hm1, hr1⟩ := h1.open
 obtain ⟨a2, c2, rfl, hc2, hm2, hr2⟩ := h2.open
 clear h1 h2
 refine nO func121 ntmps121 ?_
 refine kG O (aI (bT O (aT (kE aB O) (cO O (aT (kE aB O) (aT (fF O O) (jo O (fun h1 => ?_) (fun h1 => ?_))))))))
 ·(try simp only [aG] at h1)
  refine jE O (aC (dO results121 O ?_))
  exact ⟨by rw [show (l1 == l2) = false from beq_eq_false_iff_ne.2 (by rintro rfl; exact h1 rfl)], Cj.refl _⟩
 ·(try simp only [aG] at h1)
  refine gX (aI (kG O (bK ?_)))
  refine jh [(0, _), (1, _)] (fun (k : Nat) => [(5, .int .i64 (k : Int))]) (fun (k : Nat) W => k ≤ l1.length ∧ l1.length = l2.length ∧ l1.take k = l2.take k ∧ Cj w W) (fun (k : Nat) => l1.length - k) (0) vV rJ ⟨by omega, by omega, by simp, Cj.refl _⟩ ?_
  rintro k w1 ⟨hk, hl, ht, hD⟩
  dsimp only [List.cons_append, List.nil_append]
  refine aI (bT O (cO O (aT (kE aB O) (aT (fJ O O) (jo O (fun h2 => ?_) (fun h2 => ?_))))))
  ·(try simp only [aG] at h2)
   refine gX (aI (bK (aI ?_)))
   obtain ⟨b1, o1, rfl, hq1⟩ := hr1 (by omega)
   obtain ⟨b2, o2, rfl, hq2⟩ := hr2 (by omega)
   have hc1 := hq1 k (by omega)
   have hc2 := hq2 k (by omega)
   refine vU (n := 9) [0, 1, 2, 3, 4, 5, 6, 7, 8] (fun W => W.heap = w1.heap) (by kernel_rfl) (by kernel_rfl) O ?_
   have hS0 : (fun W => W.heap = w1.heap) (w1.drew) := rfl
   refine fM 0 O hS0 O (fM 1 O hS0 O (iE 2 O hS0 (fun _ => dP aB jU O O (by omega)) ?_))
   refine iD 3 O hS0 (fun W hW => fB (dG fO O) O (by rw [Gt (hW.trans hD.heap)]; simpa using hc1)) ?_
   refine fM 4 O hS0 O (fM 5 O hS0 O (iE 6 O hS0 (fun _ => dP aB jU O O (by omega)) ?_))
   refine iD 7 O hS0 (fun W hW => fB (dG fO O) O (by rw [Gt (hW.trans hD.heap)]; simpa using hc2)) ?_
   refine iE 8 O hS0 (fun _ => fF O O) (oH (aZ (dw O (fun h3 => ?_) (fun h3 => ?_))))
   ·(try simp only [aG] at h3)
    refine jE O (aY (aC (aC (aY (aC (dO results121 O ?_))))))
    exact ⟨by rw [show (l1 == l2) = false from beq_eq_false_iff_ne.2 (by rintro rfl; exact h3 rfl)], hD.drew⟩
   ·(try simp only [aG] at h3)
    refine eG (aS (aZ (aF (cO O (aT (gY O O (by omega)) (lg O (dJ ?_)))))))
    refine fG (k + 1) ?_ ?_ ?_ ?_
    ·exact rJ
    ·exact vV
    ·(try dsimp only)
     first | done | exact ⟨by omega, by omega, MP (by omega) (by omega) ht (by simpa using h3), hD.drew⟩
    ·(try dsimp only); omega
  ·(try simp only [aG] at h2)
   refine iZ (bC (bC (dK (aZ (jE O (dO results121 O ?_))))))
   exact ⟨by rw [show (l1 == l2) = true from beq_iff_eq.2 (by rw [List.take_of_length_le (by omega), List.take_of_length_le (by omega)] at ht; exact ht)], hD⟩
theorem Yc (w : World) (v1 v2 : Value) (l : List Int) (h1 : mP w .i32 v1 l) (h2 : mP w .i32 v2 l) :
    iK prog 121 #[v1, v2] w fun v w' => v = .bool true ∧ Cj w w' := by
  have := Nb w v1 v2 l l h1 h2
  simpa using this
end Go.Proofs.YtnhhmieghbfalaaGreatDoor
end
section
namespace Go.Proofs.YtnhhmieghbfalaaGreatDoor
open Go.RowKit
section
variable {w0 w : World} {F : HP} {p : Nat} {L : List Int} {pt mk a : Int} {d i : Value} {dl il : List Int}
end
end Go.Proofs.YtnhhmieghbfalaaGreatDoor
end
