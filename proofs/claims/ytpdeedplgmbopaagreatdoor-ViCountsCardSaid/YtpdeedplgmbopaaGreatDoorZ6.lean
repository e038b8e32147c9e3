import Derived.Test.YtpdeedplgmbopaaGreatDoorZ4
import Derived.Test.YtpdeedplgmbopaaGreatDoorZ5
import Derived.Test.YtpdeedplgmbopaaGreatDoorZ3
set_option linter.unusedSimpArgs false
set_option linter.unusedVariables false
/- Texts of mine, joined, their names in short: Buf Buf2 Buf3 LineP Move BLive Same Apply BufP. -/
section
namespace Go.Proofs.YtpdeedplgmbopaaGreatDoor
open Go.RowKit
open _root_.Go.Proofs.Tryz
theorem Qn {s i j : Nat} {v : Value} (h : v.oneCell' = true) : (vH s i j v).oneCell' = true := by cases v <;> simp_all [vH, Value.oneCell']
def jd (v : Value) (f t pt mk : Int) : Array Value := #[.bool true, v, .int .i64 f, .int .i64 t, .int .i64 pt, .int .i64 mk]
theorem aaL {a b : Value} (h : a.oneCell' = true) (k : b.oneCell' = true) : ∀ u ∈ [a, b], u.oneCell' = true := by
  intro u hu; simp at hu; rcases hu with rfl | rfl
  · exact h
  · exact k
section
variable {v u : Value} {f t pt mk x : Int}
theorem ng : (jd v f t pt mk).size = 6 := rfl
theorem WH : (jd v f t pt mk).setIfInBounds 1 u = jd u f t pt mk := rfl
theorem Bo : (jd v f t pt mk).setIfInBounds 2 (.int .i64 x) = jd v x t pt mk := rfl
theorem Fe : (jd v f t pt mk).setIfInBounds 3 (.int .i64 x) = jd v f x pt mk := rfl
theorem Af : (jd v f t pt mk).setIfInBounds 4 (.int .i64 x) = jd v f t x mk := rfl
theorem su : (jd v f t pt mk).setIfInBounds 5 (.int .i64 x) = jd v f t pt x := rfl
end
def iQ (p : Nat) (L : List Int) (pt mk : Int) : HP := uZ fun (x : Value × List Int × Nat × Nat) =>
  fact (x.2.2.1 ≤ x.2.2.2 ∧ x.2.2.2 ≤ x.2.1.length ∧ L = x.2.1.take x.2.2.1 ++ x.2.1.drop x.2.2.2 ∧ L.length ≤ 1024 ∧ x.2.1.length ≤ 4096 ∧ (0 ≤ pt ∧ pt ≤ L.length) ∧ (-1 ≤ mk ∧ mk ≤ L.length)) •
    dW p (.cells (jd x.1 x.2.2.1 x.2.2.2 pt mk) 197 (0, 0)) • jW 21 .i32 x.1 x.2.1
section
variable {w0 w : World} {F : HP} {p : Nat} {L : List Int} {pt mk : Int}
theorem V.buf (H : V w0 w (iQ p L pt mk • F)) : ∃ (a : Option Addr) (c : Nat) (xs : List Int) (f t : Nat), f ≤ t ∧ t ≤ xs.length ∧ L = xs.take f ++ xs.drop t ∧ L.length ≤ 1024 ∧ xs.length ≤ 4096 ∧ (0 ≤ pt ∧ pt ≤ L.length) ∧ (-1 ≤ mk ∧ mk ≤ L.length) ∧ xs.length ≤ c ∧ (c : Int) ≤ 9223372036854775807 ∧ L.length + t = xs.length + f ∧
    V w0 w (dW p (.cells (jd (.slice a xs.length c) f t pt mk) 197 (0, 0)) • jW 21 .i32 (.slice a xs.length c) xs • F) := by
  obtain ⟨⟨v, xs, f, t⟩, H⟩ := H.nN
  obtain ⟨⟨h1, h2, h3, h4, h5, h6, h7⟩, H⟩ := H.flat.fact
  have H := H.flat
  obtain ⟨a, c, hv, hc1, hc2, _⟩ := (H.swap.aQ).form
  dsimp only at *
  subst hv
  refine ⟨a, c, xs, f, t, h1, h2, h3, h4, h5, h6, h7, hc1, hc2, ?_, H⟩
  rw [h3]; simp; omega
theorem V.vJ {v : Value} {xs : List Int} {f t : Nat} (h1 : f ≤ t) (h2 : t ≤ xs.length) (h3 : L = xs.take f ++ xs.drop t) (h4 : L.length ≤ 1024) (h5 : xs.length ≤ 4096) (h6 : 0 ≤ pt ∧ pt ≤ L.length) (h7 : -1 ≤ mk ∧ mk ≤ L.length)
    (H : V w0 w (dW p (.cells (jd v f t pt mk) 197 (0, 0)) • jW 21 .i32 v xs • F)) : V w0 w (iQ p L pt mk • F) :=
  V.jv (v, xs, f, t) (V.deep (V.lJ ⟨h1, h2, h3, h4, h5, h6, h7⟩ (V.deep H)))
theorem vK (t : TypeId) {cs : Array Value} {fr : Nat × Nat} {m : Bool} (hb : w.heap[p]? = some (.cells cs t fr)) (h0 : cs[0]? = some (.bool m)) :
    iI prog 131 #[.pointer (some ⟨p, 0, none⟩)] w fun v w' => v = .bool (!m) ∧ w = w' := by
  refine jr func131 ntmps131 ?_
  refine jR O (bT O (Z (iR lN O O) (SS O (fun h1 => ?_))))
  (try simp only [aA] at h1)
  refine bg (bP O (bg (dL O (bg (bJ 0 bD O aP O (bg (fV bZ O hb h0 (bg (Z (lC O) (ig O O (fC O (dK results131 O ?_))))))))))))
  exact ⟨O, O⟩
theorem uw (H : V w0 w (iQ p L pt mk • F)) : iI prog 132 #[.pointer (some ⟨p, 0, none⟩)] w fun v w' => v = .int .i64 L.length ∧ zH w w' := by
 obtain ⟨a, c, xs, f, t, h1, h2, h3, h4, h5, h6, h7, hc1, hc2, hl, H1⟩ := H.buf
 have hb := H1.get.2
 refine jr func132 ntmps132 ?_
 refine jR O (aO (bT O (dS O func131 (vK _ hb O) ?_)))
 rintro _ _ ⟨rfl, rfl⟩
 refine iL (qH (gQ (aO ?_)))
 refine qG (n := 16) [0, 1, 2, 3, 4, 5, 6, 7, 8, 9, 10, 11, 12, 13, 14, 15] (fun W => W.heap = w.heap) (by kernel_rfl) (by kernel_rfl) O ?_
 have hS0 : (fun W => W.heap = w.heap) (w.drew) := rfl
 have H3d := H1.drew
 refine iU 0 O hS0 O (jY 1 O hS0 O (iq 2 O hS0 1 bD O dh O ?_))
 refine jQ 3 O hS0 (fun W hW => kF aj O (by rw [hW]; exact hb) O) ?_
 refine jB 4 O hS0 (fun _ => jc aj O) (iU 5 O hS0 O (jY 6 O hS0 O (iq 7 O hS0 3 bD O ay O ?_)))
 refine jQ 8 O hS0 (fun W hW => kF aH O (by rw [hW]; exact hb) O) ?_
 refine iU 9 O hS0 O (jY 10 O hS0 O (iq 11 O hS0 2 bD O ay O ?_))
 refine jQ 12 O hS0 (fun W hW => kF aH O (by rw [hW]; exact hb) O) ?_
 refine jB 13 O hS0 (fun _ => iZ O O (by omega)) (jB 14 O hS0 (fun _ => iZ O O (by omega)) (jB 15 O hS0 (fun _ => dR O) (ru (aW (nO (dK results132 O ?_))))))
 exact ⟨by congr 1; omega, zH.refl _ |>.drew⟩
theorem L8 (H : V w0 w (iQ p L pt mk • F)) : iI prog 127 #[.pointer (some ⟨p, 0, none⟩)] w fun v w' => v = .int .i64 pt ∧ w = w' := by
  obtain ⟨a, c, xs, f, t, h1, h2, h3, h4, h5, h6, h7, hc1, hc2, hl, H1⟩ := H.buf
  have hb := H1.get.2
  refine jr func127 ntmps127 ?_
  refine jR O (aO (bT O (dS O func131 (vK _ hb O) ?_)))
  rintro _ _ ⟨rfl, rfl⟩
  refine iL (qH (gQ (bT O (dL O (bJ 4 bD O ay O (fV aH O hb O (fC O (dK results127 O ?_))))))))
  exact ⟨O, O⟩
theorem OE (H : V w0 w (iQ p L pt mk • F)) : iI prog 128 #[.pointer (some ⟨p, 0, none⟩)] w fun v w' => v = .int .i64 mk ∧ w = w' := by
  obtain ⟨a, c, xs, f, t, h1, h2, h3, h4, h5, h6, h7, hc1, hc2, hl, H1⟩ := H.buf
  have hb := H1.get.2
  refine jr func128 ntmps128 ?_
  refine jR O (aO (bT O (dS O func131 (vK _ hb O) ?_)))
  rintro _ _ ⟨rfl, rfl⟩
  refine iL (qH (gQ (bT O (dL O (bJ 5 bD O ay O (fV aH O hb O (fC O (dK results128 O ?_))))))))
  exact ⟨O, O⟩
theorem yC (H : V w0 w (iQ p L pt mk • F)) : iI prog 126 #[.pointer (some ⟨p, 0, none⟩)] w fun v w' => V w0 w' (jW 21 .i32 v L • iQ p L pt mk • F) := by
 obtain ⟨a, c, xs, f, t, h1, h2, h3, h4, h5, h6, h7, hc1, hc2, hl, H1⟩ := H.buf
 have hb := H1.get.2
 refine jr func126 ntmps126 ?_
 refine jR O (aO (bT O (dS O func131 (vK _ hb O) ?_)))
 rintro _ _ ⟨rfl, rfl⟩
 refine iL (qH (gQ (aO ?_)))
 refine qG (n := 21) [0, 1, 2, 3, 4, 5, 6, 7, 8, 9, 10, 11, 12, 13, 14, 15, 16, 17, 18, 19, 20] (fun W => W.heap[p]? = some (.cells (jd (.slice a xs.length c) f t pt mk) 197 (0, 0))) (by kernel_rfl) (by kernel_rfl) O ?_
 have hS0 : (fun W => W.heap[p]? = some (.cells (jd (.slice a xs.length c) f t pt mk) 197 (0, 0))) (w.drew) := hb
 have H3d := H1.drew
 refine iU 0 O hS0 O (jY 1 O hS0 O (iq 2 O hS0 1 bD O dh O (jQ 3 O hS0 (fun W hW => kF aj O hW O) (iU 4 O hS0 O (jY 5 O hS0 O (iq 6 O hS0 2 bD O ay O (jQ 7 O hS0 (fun W hW => kF aH O hW O) (jB 8 O hS0 (fun _ => wV aj bV O O O (by omega)) ?_))))))))
 refine iU 9 O hS0 O (jY 10 O hS0 O (iq 11 O hS0 1 bD O dh O (jQ 12 O hS0 (fun W hW => kF aj O hW O) (iU 13 O hS0 O (jY 14 O hS0 O (iq 15 O hS0 3 bD O ay O (jQ 16 O hS0 (fun W hW => kF aH O hW O) (jB 17 O hS0 (fun _ => wV aj bV O O O (by omega)) ?_))))))))
 refine nD 18 O (Vf (vs := [vH 1 0 f (.slice a xs.length c), vH 1 t xs.length (.slice a xs.length c)]) H3d iC dh zeroValue22 O O O (by decide) (aaL (Qn O) (Qn O))) ?_
 rintro _ w2 ⟨b2, rfl, H2⟩
 have hS2 : (fun W => W.heap[p]? = some (.cells (jd (.slice a xs.length c) f t pt mk) 197 (0, 0))) w2 := H2.swap.get.2
 refine F8 hS2 ?_
 refine nD 19 O (xW O func172 (Dk (l1 := xs.take f) (l2 := xs.drop t) H2 (fun W HW => gJ.upto HW.LW.aQ (by omega)) (fun W HW => gJ.from HW.LW.aQ (by omega)) (by simp; omega))) ?_
 rintro u w3 H3
 have hS3 : (fun W => W.heap[p]? = some (.cells (jd (.slice a xs.length c) f t pt mk) 197 (0, 0))) w3 := H3.LW.get.2
 refine F8 hS3 ?_
 refine jB 20 O hS3 (fun _ => dR O) (ru (aW (nO (dK results126 O ?_))))
 rw [← h3] at H3
 exact (V.vJ h1 h2 h3 h4 h5 h6 h7 H3.swap.right.d3).swap
theorem Qo {v : Value} {l : List Int} (H : V w0 w F) (hr : jE w0 F .i32 v l) (hl : l.length ≤ 1024) : iI prog 151 #[v] w fun v' w' => ∃ p, v' = .tuple #[.pointer (some ⟨p, 0, none⟩), .int .i64 0] ∧ V w0 w' (iQ p l l.length (-1) • F) := by
 obtain ⟨a, c, rfl, _, _, _⟩ := (hr w H).open
 refine jr func151 ntmps151 ?_
 refine iV (iJ O (vY O (bT O (Z (jc aj O) (Z (dY O O) (iL (TB O (fun h1 => ?_))))))))
 (try simp only [aA] at h1)
 refine gQ (bT O (dS O func71 (oz H hr (by omega)) ?_))
 rintro u w1 H1
 obtain ⟨au, cu, hu, _⟩ := (H1.aQ).form
 subst hu
 refine bP O (Z (jc aj O) (Z (mF (pl := #[(0, 1), (1, 1), (2, 1), (3, 1), (4, 1), (5, 1)]) (jd (.slice au l.length cu) 0 0 l.length (-1)) bD zeroValue197 (fun w => by kernel_rfl) O (by kernel_rfl)) (jV (Ve H1 O) ?_)))
 rintro _ w2 ⟨b2, rfl, H2⟩
 refine vY O ?_
 have HB : V w0 w2 (dW b2 (.cells (jd (.slice au l.length cu) 0 0 l.length (-1)) 197 (0, 0)) • jW 21 .i32 (.slice au l.length cu) l • F) := H2
 refine aC (jO O O (bP O (Z (jc aj O) (bP O (Z (jc aj O) (dL O (bJ 2 bD O ay O (aI (jM HB ay O O O (by rw [ng]; decide)) ?_))))))))
 rintro _ w3 HB1
 rw [Bo] at HB1
 refine dL O (bJ 3 bD O ay O (aI (jM HB1 ay O O O (by rw [ng]; decide)) ?_))
 rintro _ w4 HB2
 rw [Fe] at HB2
 refine rZ O (iJ O (fC O (P5 results151 O O ?_)))
 exact ⟨_, O, V.vJ (f := l.length) (t := l.length) (Nat.le_refl _) (Nat.le_refl _) (by simp) hl (by omega) (by omega) (by omega) HB2⟩
end
def lq (L : List Int) (i r : Nat) : List Int := jk (jk (List.replicate (L.length + r + 16) 0) 0 (L.take i)) (i + r + 16) (L.drop i)
theorem TI {L : List Int} {i r : Nat} (h : i ≤ L.length) : (lq L i r).length = L.length + r + 16 := by
  unfold lq
  rw [fB, fB] <;> simp [fB] <;> first | omega | (rw [fB] <;> simp <;> omega)
theorem IV {l ys : List Int} {i : Nat} (h : i + ys.length ≤ l.length) : (jk l i ys).take (i + ys.length) = l.take i ++ ys := by
  unfold jk
  rw [List.take_append_of_le_length (by simp; omega), List.take_of_length_le (by simp; omega)]
theorem Qp {l ys : List Int} {i j : Nat} (h : i + ys.length ≤ j) (h2 : j ≤ l.length) : (jk l i ys).drop j = l.drop j := by
  unfold jk
  rw [List.drop_append, List.drop_eq_nil_of_le (by simp; omega), List.nil_append, List.drop_drop]
  congr 1
  simp
  omega
theorem JZ {l ys : List Int} {i j : Nat} (h : j ≤ i) (h2 : i ≤ l.length) : (jk l i ys).take j = l.take j := by
  unfold jk
  rw [List.append_assoc, List.take_append_of_le_length (by simp; omega), List.take_take, Nat.min_eq_left h]
theorem J3 {l ys : List Int} {i : Nat} (h : i + ys.length = l.length) : (jk l i ys).drop i = ys := by
  unfold jk
  rw [List.append_assoc, List.drop_append, List.drop_eq_nil_of_le (by simp; omega), List.nil_append]
  simp [show i - min i l.length = 0 from by omega, show l.length ≤ i + ys.length from by omega]
theorem Qq {L : List Int} {i r : Nat} (h : i ≤ L.length) : (lq L i r).take i = L.take i := by
  have h1 : (jk (List.replicate (L.length + r + 16) (0 : Int)) 0 (L.take i)).length = L.length + r + 16 := by rw [fB] <;> simp; omega
  unfold lq
  rw [JZ (by omega) (by rw [h1]; omega)]
  have := IV (l := List.replicate (L.length + r + 16) (0 : Int)) (ys := L.take i) (i := 0) (by simp; omega)
  rw [show 0 + (L.take i).length = i from by simp; omega] at this
  simpa using this
theorem Qr {L : List Int} {i r : Nat} (h : i ≤ L.length) : (lq L i r).drop (i + r + 16) = L.drop i := by
  have h1 : (jk (List.replicate (L.length + r + 16) (0 : Int)) 0 (L.take i)).length = L.length + r + 16 := by rw [fB] <;> simp; omega
  exact J3 (by rw [h1]; simp; omega)
section
variable {w0 w : World} {F : HP} {p : Nat} {L : List Int} {pt mk : Int}
theorem OG {i r : Nat} (H : V w0 w (iQ p L pt mk • F)) (hi : i ≤ L.length) (hr : r ≤ 1024) :
  iI prog 214 #[.pointer (some ⟨p, 0, none⟩), .int .i64 i, .int .i64 r] w fun _ w' => ∃ v, V w0 w' (dW p (.cells (jd v i (i + r + 16 : Nat) pt mk) 197 (0, 0)) • jW 21 .i32 v (lq L i r) • F) := by
 have hL4 : L.length ≤ 1024 := by obtain ⟨a, c, xs, f, t, h1, h2, h3, h4, h5, h6, h7, hc1, hc2, hl, H1⟩ := H.buf; exact h4
 have e1 : ((L.length : Int) + r + 16).toNat = L.length + r + 16 := by omega
 refine AB func214 ntmps214 ?_
 refine bT O (dS O func126 (yC H) ?_)
 rintro u w1 H1
 obtain ⟨au, cu, hu, hcu, ahl, _⟩ := (H1.aQ).form
 subst hu
 obtain ⟨a, c, xs, f, t, h1, h2, h3, h4, h5, h6, h7, hc1, hc2, hl, HB⟩ := H1.swap.buf
 refine fP O (bT O (bP O (Z (jc aj O) (bP O (Z (fO O O (by omega)) (Z (fO O O (by omega)) (jV (Qg HB aj Dj O O (by omega) (by omega) (by omega)) ?_)))))))
 rintro v w2 H2
 rw [e1] at H2
 have hm : (List.replicate (L.length + r + 16) (0 : Int)).length = L.length + r + 16 := by simp
 obtain ⟨av, cv, hv, hcv, hcv2, _⟩ := (H2.aQ).form
 rw [hm] at hv hcv
 subst hv
 refine dL O (bJ 1 bD O dh O (aI (jM H2.swap dh O O O (by rw [ng]; decide)) ?_))
 rintro _ w3 H3
 rw [WH] at H3
 refine rZ O (nK O O (bJ 2 bD O ay O (aI (jM H3 ay O O O (by rw [ng]; decide)) ?_)))
 rintro _ w4 H4
 rw [Bo] at H4
 refine rZ O (nK O O (bJ 1 bD O dh O (fV aj O H4.get.2 O (Z (jc aj O) (bP O (Z (jc aj O) (bP O (Z (iZ O O (by omega)) (Z (iZ O O (by omega)) (dL O (bJ 3 bD O ay O (aI (jM H4 ay O O O (by rw [ng]; decide)) ?_))))))))))))
 rintro _ w5 H5
 rw [Fe, show (((L.length + r + 16 : Nat) : Int) - ((L.length : Int) - (i : Int))) = ((i + r + 16 : Nat) : Int) from by omega] at H5
 have hb3 := H5.get.2
 refine qR ?_
 refine qG (n := 8) [0, 1, 2, 3, 4, 5, 6, 7] (fun W => W.heap[p]? = some (.cells (jd (.slice av (L.length + r + 16) cv) i (i + r + 16 : Nat) pt mk) 197 (0, 0))) (by kernel_rfl) (by kernel_rfl) O ?_
 have hS0 : (fun W => W.heap[p]? = some (.cells (jd (.slice av (L.length + r + 16) cv) i (i + r + 16 : Nat) pt mk) 197 (0, 0))) (w5.drew) := hb3
 have H4d := H5.drew
 refine iU 0 O hS0 O (jY 1 O hS0 O (iq 2 O hS0 1 bD O dh O (jQ 3 O hS0 (fun W hW => kF aj O hW O) (iU 4 O hS0 O (iU 5 O hS0 O (jB 6 O hS0 (fun _ => wV aj bV O O O (by omega)) ?_))))))
 refine nD 7 O (Df (i := 0) (m := L.take i) H4d.swap (gJ.upto H4d.r4.aQ (by omega)) aj (by kernel_rfl) (by rw [hm, Tt]; rfl) O (by simp; omega)) ?_
 rintro _ w6 ⟨rfl, H6⟩
 have hm2 : (jk (List.replicate (L.length + r + 16) (0 : Int)) 0 (L.take i)).length = L.length + r + 16 := by rw [fB] <;> simp; omega
 refine JO (by kernel_rfl) ?_
 refine ru (aW ?_)
 refine qG (n := 13) [0, 1, 2, 3, 4, 5, 6, 7, 8, 9, 10, 11, 12] (fun W => W.heap[p]? = some (.cells (jd (.slice av (L.length + r + 16) cv) i (i + r + 16 : Nat) pt mk) 197 (0, 0))) (by kernel_rfl) (by kernel_rfl) O ?_
 have hS0 : (fun W => W.heap[p]? = some (.cells (jd (.slice av (L.length + r + 16) cv) i (i + r + 16 : Nat) pt mk) 197 (0, 0))) (w6.drew) := H6.swap.get.2
 have H5d := H6.drew
 refine iU 0 O hS0 O (jY 1 O hS0 O (iq 2 O hS0 1 bD O dh O (jQ 3 O hS0 (fun W hW => kF aj O hW O) (iU 4 O hS0 O (jY 5 O hS0 O (iq 6 O hS0 3 bD O ay O (jQ 7 O hS0 (fun W hW => kF aH O hW O) (jB 8 O hS0 (fun _ => wV aj bV O O O (by omega)) ?_))))))))
 refine iU 9 O hS0 O (iU 10 O hS0 O (jB 11 O hS0 (fun _ => wV aj bV O O O (by omega)) ?_))
 refine nD 12 O (Df (i := i + r + 16) (m := L.drop i) H5d (gJ.from H5d.r4.aQ (by omega)) aj (by kernel_rfl) (by rw [hm2]; rfl) O (by rw [hm2]; simp; omega)) ?_
 rintro _ w7 ⟨rfl, H7⟩
 refine JO (by kernel_rfl) ?_
 refine ru (lK (.inr O) results214 ?_)
 exact ⟨_, H7.swap.LW.right.LW.right⟩
theorem vM (H : V w0 w (iQ p L pt mk • F)) : iI prog 131 #[.pointer (some ⟨p, 0, none⟩)] w fun v w' => v = .bool false ∧ w = w' := by
  obtain ⟨a, c, xs, f, t, h1, h2, h3, h4, h5, h6, h7, hc1, hc2, hl, H1⟩ := H.buf
  exact vK _ H1.get.2 rfl
def fD (pt i j n : Int) : Int := if j < pt then pt + (n - (j - i)) else if i ≤ pt then i + n else pt
def fK (mk i j n : Int) : Int := if j < mk then mk + (n - (j - i)) else if i < mk then i else mk
def jS (at_ : Int) (d i : Value) : Array Value := #[.int .i64 at_, d, i]
theorem qx {at_ : Int} {d i : Value} (hd : d.oneCell' = true) (hi : i.oneCell' = true) : ∀ v ∈ (jS at_ d i).toList, v.oneCell' = true := by
  intro v hv
  simp [jS] at hv
  rcases hv with rfl | rfl | rfl <;> first | rfl | assumption
variable {v : Value} {l : List Int} {i j : Int}
theorem Jj (H : V w0 w (iQ p L pt mk • F)) (hr : jE w0 F .i32 v l) (hb : i < 0 ∨ L.length < i ∨ j < i ∨ L.length < j) :
  iI prog 202 #[.pointer (some ⟨p, 0, none⟩), .int .i64 i, .int .i64 j, v] w fun v' w' => v' = .tuple #[.agg (jS 0 (.slice none 0 0) (.slice none 0 0)), .int .i64 70] ∧ V w0 w' (iQ p L pt mk • F) := by
 obtain ⟨a, c, rfl, _, _, _⟩ := (hr w H.right).open
 refine Ql func202 ntmps202 ?_
 refine iV (jV (zN H dQ) ?_)
 rintro _ w1 ⟨b1, rfl, H1⟩
 refine fP O (bT O (dS O func132 (uw H1.right) ?_))
 rintro _ w2 ⟨rfl, hD⟩
 have HL := H1.xg hD
 refine vY O (aY (bT O (dS O func131 (vM HL.right) ?_)))
 rintro _ _ ⟨rfl, rfl⟩
 refine fP O (bH O (fun h1 => ?_) (fun h1 => ?_))
 ·(try simp only [aA] at h1)
  exfalso; first | contradiction | omega
 ·(try simp only [aA] at h1)
  refine bT O (Z (gB O O) (jJ O (fun h2 => ?_) (fun h2 => ?_)))
  ·(try simp only [aA] at h2)
   refine bF (bF (bF (jh O O (bP O (bF (bF (bF (jh O O (bP O (bF (bF (bF (jh O O (fP O (C9 (iV (Z (mF (pl := #[(0, 1), (1, 1), (2, 1)]) (jS 0 (.slice none 0 0) (.slice none 0 0)) bf dQ (fun w => by kernel_rfl) O (by kernel_rfl)) (aI (gK (cs := jS 0 (.slice none 0 0) (.slice none 0 0)) HL cO O O O O (qx O O)) ?_))))))))))))))))))
   rintro _ w5 H5
   refine fC O (aT (aB ?_))
   refine oH (.inl O) kD O O bf O (by rw [sQ]; rfl) H5.get.2 ?_
   exact ⟨O, H5.right⟩
  ·(try simp only [aA] at h2)
   refine bg (bP O (bg (bP O (bg (Z (dY O O) (ig O O (jJ O (fun h3 => ?_) (fun h3 => ?_))))))))
   ·(try simp only [aA] at h3)
    refine bF (bF (bF (jh O O (bP O (bF (bF (bF (jh O O (fP O (C9 (iV (Z (mF (pl := #[(0, 1), (1, 1), (2, 1)]) (jS 0 (.slice none 0 0) (.slice none 0 0)) bf dQ (fun w => by kernel_rfl) O (by kernel_rfl)) (aI (gK (cs := jS 0 (.slice none 0 0) (.slice none 0 0)) HL cO O O O O (qx O O)) ?_)))))))))))))
    rintro _ w6 H6
    refine fC O (aT (aB ?_))
    refine oH (.inl O) kD O O bf O (by rw [sQ]; rfl) H6.get.2 ?_
    exact ⟨O, H6.right⟩
   ·(try simp only [aA] at h3)
    refine bg (bP O (bg (bP O (bg (Z (gB O O) (ig O O (jJ O (fun h4 => ?_) (fun h4 => ?_))))))))
    ·(try simp only [aA] at h4)
     refine bF (bF (bF (jh O O (fP O (C9 (iV (Z (mF (pl := #[(0, 1), (1, 1), (2, 1)]) (jS 0 (.slice none 0 0) (.slice none 0 0)) bf dQ (fun w => by kernel_rfl) O (by kernel_rfl)) (aI (gK (cs := jS 0 (.slice none 0 0) (.slice none 0 0)) HL cO O O O O (qx O O)) ?_))))))))
     rintro _ w7 H7
     refine fC O (aT (aB ?_))
     refine oH (.inl O) kD O O bf O (by rw [sQ]; rfl) H7.get.2 ?_
     exact ⟨O, H7.right⟩
    ·(try simp only [aA] at h4)
     refine bg (bP O (bg (bP O (bg (Z (dY O O) (ig O O (fP O (wcA O (fun h5 => ?_)))))))))
     (try simp only [aA] at h5)
     refine iV (Z (mF (pl := #[(0, 1), (1, 1), (2, 1)]) (jS 0 (.slice none 0 0) (.slice none 0 0)) bf dQ (fun w => by kernel_rfl) O (by kernel_rfl)) (aI (gK (cs := jS 0 (.slice none 0 0) (.slice none 0 0)) HL cO O O O O (qx O O)) ?_))
     rintro _ w8 H8
     refine fC O (aT (aB ?_))
     refine oH (.inl O) kD O O bf O (by rw [sQ]; rfl) H8.get.2 ?_
     exact ⟨O, H8.right⟩
theorem Hy (H : V w0 w (iQ p L pt mk • F)) (hr : jE w0 F .i32 v l) (hb : 0 ≤ i ∧ i ≤ j ∧ j ≤ L.length) (hl : 1024 < L.length - (j - i) + l.length) :
  iI prog 202 #[.pointer (some ⟨p, 0, none⟩), .int .i64 i, .int .i64 j, v] w fun v' w' => v' = .tuple #[.agg (jS 0 (.slice none 0 0) (.slice none 0 0)), .int .i64 3] ∧ V w0 w' (iQ p L pt mk • F) := by
 obtain ⟨a, c, rfl, _, _, _⟩ := (hr w H.right).open
 have hL4 : L.length ≤ 1024 := by obtain ⟨a, c, xs, f, t, h1, h2, h3, h4, h5, h6, h7, hc1, hc2, hl, H1⟩ := H.buf; exact h4
 refine Ql func202 ntmps202 ?_
 refine iV (jV (zN H dQ) ?_)
 rintro _ w1 ⟨b1, rfl, H1⟩
 refine fP O (bT O (dS O func132 (uw H1.right) ?_))
 rintro _ w2 ⟨rfl, hD⟩
 have HL := H1.xg hD
 refine vY O (aY (bT O (dS O func131 (vM HL.right) ?_)))
 rintro _ _ ⟨rfl, rfl⟩
 refine fP O (bH O (fun h1 => ?_) (fun h1 => ?_))
 ·(try simp only [aA] at h1)
  exfalso; first | contradiction | omega
 ·(try simp only [aA] at h1)
  refine bT O (Z (gB O O) (jJ O (fun h2 => ?_) (fun h2 => ?_)))
  ·(try simp only [aA] at h2)
   exfalso; first | contradiction | omega
  ·(try simp only [aA] at h2)
   refine bg (bP O (bg (bP O (bg (Z (dY O O) (ig O O (jJ O (fun h3 => ?_) (fun h3 => ?_))))))))
   ·(try simp only [aA] at h3)
    exfalso; first | contradiction | omega
   ·(try simp only [aA] at h3)
    refine bg (bP O (bg (bP O (bg (Z (gB O O) (ig O O (jJ O (fun h4 => ?_) (fun h4 => ?_))))))))
    ·(try simp only [aA] at h4)
     exfalso; first | contradiction | omega
    ·(try simp only [aA] at h4)
     refine bg (bP O (bg (bP O (bg (Z (dY O O) (ig O O (fP O (TB O (fun h5 => ?_)))))))))
     (try simp only [aA] at h5)
     refine bT O (Z (jc aj O) (jO O O (bP O (Z (iZ O O (by omega)) (Z (iZ O O (by omega)) (Z (iZ O O (by omega)) (Z (dY O O) (fP O (wcA O (fun h6 => ?_))))))))))
     (try simp only [aA] at h6)
     refine iV (Z (mF (pl := #[(0, 1), (1, 1), (2, 1)]) (jS 0 (.slice none 0 0) (.slice none 0 0)) bf dQ (fun w => by kernel_rfl) O (by kernel_rfl)) (aI (gK (cs := jS 0 (.slice none 0 0) (.slice none 0 0)) HL cO O O O O (qx O O)) ?_))
     rintro _ w8 H8
     refine fC O (aT (aB ?_))
     refine oH (.inl O) kD O O bf O (by rw [sQ]; rfl) H8.get.2 ?_
     exact ⟨O, H8.right⟩
end
section
variable {w0 w : World} {F : HP} {p : Nat} {L : List Int} {pt mk : Int} {v : Value} {l : List Int} {i j : Int}
theorem J4 {i j : Nat} (H : V w0 w (iQ p L pt mk • F)) (hr : jE w0 F .i32 v l) (hb : i ≤ j ∧ j ≤ L.length) (hl : (L.length : Int) - ((j : Int) - i) + l.length ≤ 1024) :
    iI prog 202 #[.pointer (some ⟨p, 0, none⟩), .int .i64 i, .int .i64 j, v] w fun v' w' => ∃ d s, v' = .tuple #[.agg (jS i d s), .int .i64 0] ∧
      V w0 w' (jW 21 .i32 d ((L.drop i).take (j - i)) • jW 21 .i32 s l • iQ p (L.take i ++ l ++ L.drop j) (fD pt i j l.length) (fK mk i j l.length) • F) := by
  obtain ⟨a, c, rfl, hac, ahm, _⟩ := (hr w H.right).open
  obtain ⟨hL4, hpt, hmk⟩ : L.length ≤ 1024 ∧ (0 ≤ pt ∧ pt ≤ L.length) ∧ (-1 ≤ mk ∧ mk ≤ L.length) := by obtain ⟨a, c, xs, f, t, h1, h2, h3, h4, h5, h6, h7, hc1, hc2, hl, H1⟩ := H.buf; exact ⟨h4, h6, h7⟩
  have hg1 := TI (L := L) (i := i) (r := l.length) (by omega)
  have hg2 := Qq (L := L) (i := i) (r := l.length) (by omega)
  have hg3 := Qr (L := L) (i := i) (r := l.length) (by omega)
  have hL' : L.take i ++ l ++ L.drop j = (jk (lq L i l.length) i l).take (i + l.length) ++ (jk (lq L i l.length) i l).drop (i + l.length + 16 + (j - i)) := by
    rw [IV (by omega), Qp (by omega) (by omega), hg2]
    congr 1
    rw [← List.drop_drop, hg3, List.drop_drop]
    congr 1; omega
  have hlen' : (L.take i ++ l ++ L.drop j).length = L.length - (j - i) + l.length := by simp; omega
  refine Ql func202 ntmps202 ?_
  refine iV (jV (zN H dQ) ?_)
  rintro _ w1 ⟨b1, rfl, H1⟩
  refine fP O (bT O (dS O func132 (uw H1.right) ?_))
  rintro _ w2 ⟨rfl, hD⟩
  have HL := H1.xg hD
  refine vY O (aY (bT O (dS O func131 (vM HL.right) ?_)))
  rintro _ _ ⟨rfl, rfl⟩
  refine fP O (bH O (fun h1 => ?_) (fun h1 => ?_))
  · (try simp only [aA] at h1)
    exfalso; first | contradiction | omega
  · (try simp only [aA] at h1)
    refine bT O (Z (gB O O) (jJ O (fun h2 => ?_) (fun h2 => ?_)))
    · (try simp only [aA] at h2)
      exfalso; first | contradiction | omega
    · (try simp only [aA] at h2)
      refine bg (bP O (bg (bP O (bg (Z (dY O O) (ig O O (jJ O (fun h3 => ?_) (fun h3 => ?_))))))))
      · (try simp only [aA] at h3)
        exfalso; first | contradiction | omega
      · (try simp only [aA] at h3)
        refine bg (bP O (bg (bP O (bg (Z (gB O O) (ig O O (jJ O (fun h4 => ?_) (fun h4 => ?_))))))))
        · (try simp only [aA] at h4)
          exfalso; first | contradiction | omega
        · (try simp only [aA] at h4)
          refine bg (bP O (bg (bP O (bg (Z (dY O O) (ig O O (fP O (TB O (fun h5 => ?_)))))))))
          (try simp only [aA] at h5)
          refine bT O (Z (jc aj O) (jO O O (bP O (Z (iZ O O (by omega)) (Z (iZ O O (by omega)) (Z (iZ O O (by omega)) (Z (dY O O) (fP O (TB O (fun h6 => ?_))))))))))
          (try simp only [aA] at h6)
          refine dn (aK (aW (bT O (bP O (dS O func126 (yC HL.swap) ?_)))))
          rintro u w8 H8
          obtain ⟨au, cu, hu, _⟩ := (H8.aQ).form
          subst hu
          refine jO O O (Z (wV aj bV O O O (by omega)) ?_)
          refine dS O func71 (oz H8 (fun W HW => gJ.cut HW.aQ (i := i) (j := j) (by omega) (by omega)) (by simp; omega)) ?_
          rintro d w9 H9
          have HC := H9.swap.right
          obtain ⟨ad, cd, hd, _⟩ := (HC.aQ).form
          subst hd
          refine bP O (dS O func71 (oz HC hr.under.under.under (by omega)) ?_)
          rintro s w10 pW
          obtain ⟨ai, ci, hs, _⟩ := (pW.aQ).form
          subst hs
          refine Z (mF (pl := #[(0, 1), (1, 1), (2, 1)]) (jS i (.slice ad ((L.drop i).take (j - i)).length cd) (.slice ai l.length ci)) bf dQ (fun w => by kernel_rfl) O (by kernel_rfl)) (jV (zN pW dQ) ?_)
          rintro _ FX ⟨b11, rfl, sW⟩
          refine aI (gK (cs := jS i (.slice ad ((L.drop i).take (j - i)).length cd) (.slice ai l.length ci)) sW cO O O O O (qx O O)) ?_
          rintro _ w12 wL
          refine rZ O (jO O O (Z (jc aj O) (dS O func214 (OG wL.r4 (by omega) (by omega)) ?_)))
          rintro _ Qs ⟨x, xZ⟩
          obtain ⟨ax, cx, hx, _⟩ := (xZ.swap.aQ).form
          subst hx
          refine rZ O (dL O (bJ 3 bD O ay O (fV aH O xZ.get.2 O (jO O O (Z (iZ O O (by omega)) (Z (fO O O (by omega)) (dL O (bJ 3 bD O ay O (aI (jM xZ ay O O O (by rw [ng]; decide)) ?_)))))))))
          rintro _ P6 Az
          rw [Fe] at Az
          have afq := Az.get.2
          refine qR ?_
          refine qG (n := 11) [0, 1, 2, 3, 4, 5, 6, 7, 8, 9, 10] (fun W => W.heap[p]? = some (.cells (jd (.slice ax (lq L i l.length).length cx) i ((i + l.length + 16 : Nat) + ((j : Int) - i)) pt mk) 197 (0, 0))) (by kernel_rfl) (by kernel_rfl) O ?_
          have hS0 : (fun W => W.heap[p]? = some (.cells (jd (.slice ax (lq L i l.length).length cx) i ((i + l.length + 16 : Nat) + ((j : Int) - i)) pt mk) 197 (0, 0))) (P6.drew) := afq
          have Yq := Az.drew
          refine iU 0 O hS0 O (jY 1 O hS0 O (iq 2 O hS0 1 bD O dh O (jQ 3 O hS0 (fun W hW => kF aj O hW O) (iU 4 O hS0 O (jY 5 O hS0 O (iq 6 O hS0 2 bD O ay O (jQ 7 O hS0 (fun W hW => kF aH O hW O) (jB 8 O hS0 (fun _ => wV aj bV O O O (by omega)) ?_))))))))
          refine iU 9 O hS0 O (nD 10 O (Df (i := i) (m := l) Yq.swap (hr _ Yq.right.right.right.right.right.right) aj (by kernel_rfl) O O (by omega)) ?_)
          rintro _ Qu ⟨rfl, zI⟩
          have HS := zI.swap
          refine JO (by kernel_rfl) ?_
          refine ru (aW (bT O (dL O (bJ 2 bD O ay O (fV aH O HS.get.2 O (bP O (Z (jc aj O) (Z (fO O O (by omega)) (dL O (bJ 2 bD O ay O (aI (jM HS ay O O O (by rw [ng]; decide)) ?_)))))))))))
          rintro _ w16 uY
          rw [Bo] at uY
          refine qR (aY (bT O (dL O (bJ 4 bD O ay O (fV aH O uY.get.2 O (bP O (Z (dY O O) (fP O (bH O (fun h7 => ?_) (fun h7 => ?_))))))))))
          · (try simp only [aA] at h7)
            refine aC (nK O O (bJ 4 bD O ay O (fV aH O uY.get.2 O (bP O (Z (jc aj O) (jO O O (Z (iZ O O (by omega)) (Z (iZ O O (by omega)) (Z (fO O O (by omega)) (dL O (bJ 4 bD O ay O (aI (jM uY ay O O O (by rw [ng]; decide)) ?_))))))))))))
            rintro _ Yr EH
            rw [Af] at EH
            refine bY (aK (aW (aO (aY (bT O (dL O (bJ 5 bD O ay O (fV aH O EH.get.2 O (bP O (Z (dY O O) (fP O (bH O (fun h8 => ?_) (fun h8 => ?_)))))))))))))
            · (try simp only [aA] at h8)
              refine aC (nK O O (bJ 5 bD O ay O (fV aH O EH.get.2 O (bP O (Z (jc aj O) (jO O O (Z (iZ O O (by omega)) (Z (iZ O O (by omega)) (Z (fO O O (by omega)) (dL O (bJ 5 bD O ay O (aI (jM EH ay O O O (by rw [ng]; decide)) ?_))))))))))))
              rintro _ Ym Eb
              rw [su] at Eb
              refine bY (aK (aW (aO ?_)))
              have vN := Eb.LW
              refine aC (Z (dM bf O cO O O vN.get.2) (aI (gK (cs := jS i (.slice ad ((L.drop i).take (j - i)).length cd) (.slice ai l.length ci)) vN.r6 cO O O O O (qx O O)) ?_))
              rintro _ w19 Dl
              refine fC O ?_
              refine oH (.inl O) kD O O bf O (by rw [sQ]; rfl) Dl.get.2 ?_
              refine ⟨_, _, O, ?_⟩
              first
                | rw [show fD pt i j l.length = pt + ((l.length : Int) - ((j : Int) - i)) from by unfold fD; rw [if_pos (by omega)]]
                | rw [show fD pt i j l.length = (i : Int) + l.length from by unfold fD; rw [if_neg (by omega), if_pos (by omega)]]
                | rw [show fD pt i j l.length = pt from by unfold fD; rw [if_neg (by omega), if_neg (by omega)]]
              first
                | rw [show fK mk i j l.length = mk + ((l.length : Int) - ((j : Int) - i)) from by unfold fK; rw [if_pos (by omega)]]
                | rw [show fK mk i j l.length = (i : Int) from by unfold fK; rw [if_neg (by omega), if_pos (by omega)]]
                | rw [show fK mk i j l.length = mk from by unfold fK; rw [if_neg (by omega), if_neg (by omega)]]
              refine (V.vJ (f := i + l.length) (t := i + l.length + 16 + (j - i)) (v := .slice ax (lq L i l.length).length cx) (xs := jk (lq L i l.length) i l) (by omega) (by rw [fB (by omega)]; omega) hL' (by omega) (by rw [fB (by omega)]; omega) (by omega) (by omega) ?_).d3.swap
              rw [show ((i + l.length : Nat) : Int) = (i : Int) + l.length from by omega, show ((i + l.length + 16 + (j - i) : Nat) : Int) = ((i + l.length + 16 : Nat) : Int) + ((j : Int) - i) from by omega]
              exact Dl.right.right
            · (try simp only [aA] at h8)
              refine bT O (dL O (bJ 5 bD O ay O (fV aH O EH.get.2 O (bP O (Z (dY O O) (fP O (bH O (fun h9 => ?_) (fun h9 => ?_))))))))
              · (try simp only [aA] at h9)
                refine aC (jO O O (dL O (bJ 5 bD O ay O (aI (jM EH ay O O O (by rw [ng]; decide)) ?_))))
                rintro _ w20 Di
                rw [su] at Di
                refine bY (aK (aW (aO ?_)))
                have vN := Di.LW
                refine aC (Z (dM bf O cO O O vN.get.2) (aI (gK (cs := jS i (.slice ad ((L.drop i).take (j - i)).length cd) (.slice ai l.length ci)) vN.r6 cO O O O O (qx O O)) ?_))
                rintro _ w21 vN
                refine fC O ?_
                refine oH (.inl O) kD O O bf O (by rw [sQ]; rfl) vN.get.2 ?_
                refine ⟨_, _, O, ?_⟩
                first
                  | rw [show fD pt i j l.length = pt + ((l.length : Int) - ((j : Int) - i)) from by unfold fD; rw [if_pos (by omega)]]
                  | rw [show fD pt i j l.length = (i : Int) + l.length from by unfold fD; rw [if_neg (by omega), if_pos (by omega)]]
                  | rw [show fD pt i j l.length = pt from by unfold fD; rw [if_neg (by omega), if_neg (by omega)]]
                first
                  | rw [show fK mk i j l.length = mk + ((l.length : Int) - ((j : Int) - i)) from by unfold fK; rw [if_pos (by omega)]]
                  | rw [show fK mk i j l.length = (i : Int) from by unfold fK; rw [if_neg (by omega), if_pos (by omega)]]
                  | rw [show fK mk i j l.length = mk from by unfold fK; rw [if_neg (by omega), if_neg (by omega)]]
                refine (V.vJ (f := i + l.length) (t := i + l.length + 16 + (j - i)) (v := .slice ax (lq L i l.length).length cx) (xs := jk (lq L i l.length) i l) (by omega) (by rw [fB (by omega)]; omega) hL' (by omega) (by rw [fB (by omega)]; omega) (by omega) (by omega) ?_).d3.swap
                rw [show ((i + l.length : Nat) : Int) = (i : Int) + l.length from by omega, show ((i + l.length + 16 + (j - i) : Nat) : Int) = ((i + l.length + 16 : Nat) : Int) + ((j : Int) - i) from by omega]
                exact vN.right.right
              · (try simp only [aA] at h9)
                refine dn (aK (aW (aO ?_)))
                have vN := EH.LW
                refine aC (Z (dM bf O cO O O vN.get.2) (aI (gK (cs := jS i (.slice ad ((L.drop i).take (j - i)).length cd) (.slice ai l.length ci)) vN.r6 cO O O O O (qx O O)) ?_))
                rintro _ w22 Gg
                refine fC O ?_
                refine oH (.inl O) kD O O bf O (by rw [sQ]; rfl) Gg.get.2 ?_
                refine ⟨_, _, O, ?_⟩
                first
                  | rw [show fD pt i j l.length = pt + ((l.length : Int) - ((j : Int) - i)) from by unfold fD; rw [if_pos (by omega)]]
                  | rw [show fD pt i j l.length = (i : Int) + l.length from by unfold fD; rw [if_neg (by omega), if_pos (by omega)]]
                  | rw [show fD pt i j l.length = pt from by unfold fD; rw [if_neg (by omega), if_neg (by omega)]]
                first
                  | rw [show fK mk i j l.length = mk + ((l.length : Int) - ((j : Int) - i)) from by unfold fK; rw [if_pos (by omega)]]
                  | rw [show fK mk i j l.length = (i : Int) from by unfold fK; rw [if_neg (by omega), if_pos (by omega)]]
                  | rw [show fK mk i j l.length = mk from by unfold fK; rw [if_neg (by omega), if_neg (by omega)]]
                refine (V.vJ (f := i + l.length) (t := i + l.length + 16 + (j - i)) (v := .slice ax (lq L i l.length).length cx) (xs := jk (lq L i l.length) i l) (by omega) (by rw [fB (by omega)]; omega) hL' (by omega) (by rw [fB (by omega)]; omega) (by omega) (by omega) ?_).d3.swap
                rw [show ((i + l.length : Nat) : Int) = (i : Int) + l.length from by omega, show ((i + l.length + 16 + (j - i) : Nat) : Int) = ((i + l.length + 16 : Nat) : Int) + ((j : Int) - i) from by omega]
                exact Gg.right.right
          · (try simp only [aA] at h7)
            refine bT O (dL O (bJ 4 bD O ay O (fV aH O uY.get.2 O (bP O (Z (mX O O) (fP O (bH O (fun h10 => ?_) (fun h10 => ?_))))))))
            · (try simp only [aA] at h10)
              refine aC (jO O O (bP O (Z (jc aj O) (Z (fO O O (by omega)) (dL O (bJ 4 bD O ay O (aI (jM uY ay O O O (by rw [ng]; decide)) ?_)))))))
              rintro _ w23 Ce
              rw [Af] at Ce
              refine bY (aK (aW (aO (aY (bT O (dL O (bJ 5 bD O ay O (fV aH O Ce.get.2 O (bP O (Z (dY O O) (fP O (bH O (fun h11 => ?_) (fun h11 => ?_)))))))))))))
              · (try simp only [aA] at h11)
                refine aC (nK O O (bJ 5 bD O ay O (fV aH O Ce.get.2 O (bP O (Z (jc aj O) (jO O O (Z (iZ O O (by omega)) (Z (iZ O O (by omega)) (Z (fO O O (by omega)) (dL O (bJ 5 bD O ay O (aI (jM Ce ay O O O (by rw [ng]; decide)) ?_))))))))))))
                rintro _ w24 JY
                rw [su] at JY
                refine bY (aK (aW (aO ?_)))
                have vN := JY.LW
                refine aC (Z (dM bf O cO O O vN.get.2) (aI (gK (cs := jS i (.slice ad ((L.drop i).take (j - i)).length cd) (.slice ai l.length ci)) vN.r6 cO O O O O (qx O O)) ?_))
                rintro _ w25 TJ
                refine fC O ?_
                refine oH (.inl O) kD O O bf O (by rw [sQ]; rfl) TJ.get.2 ?_
                refine ⟨_, _, O, ?_⟩
                first
                  | rw [show fD pt i j l.length = pt + ((l.length : Int) - ((j : Int) - i)) from by unfold fD; rw [if_pos (by omega)]]
                  | rw [show fD pt i j l.length = (i : Int) + l.length from by unfold fD; rw [if_neg (by omega), if_pos (by omega)]]
                  | rw [show fD pt i j l.length = pt from by unfold fD; rw [if_neg (by omega), if_neg (by omega)]]
                first
                  | rw [show fK mk i j l.length = mk + ((l.length : Int) - ((j : Int) - i)) from by unfold fK; rw [if_pos (by omega)]]
                  | rw [show fK mk i j l.length = (i : Int) from by unfold fK; rw [if_neg (by omega), if_pos (by omega)]]
                  | rw [show fK mk i j l.length = mk from by unfold fK; rw [if_neg (by omega), if_neg (by omega)]]
                refine (V.vJ (f := i + l.length) (t := i + l.length + 16 + (j - i)) (v := .slice ax (lq L i l.length).length cx) (xs := jk (lq L i l.length) i l) (by omega) (by rw [fB (by omega)]; omega) hL' (by omega) (by rw [fB (by omega)]; omega) (by omega) (by omega) ?_).d3.swap
                rw [show ((i + l.length : Nat) : Int) = (i : Int) + l.length from by omega, show ((i + l.length + 16 + (j - i) : Nat) : Int) = ((i + l.length + 16 : Nat) : Int) + ((j : Int) - i) from by omega]
                exact TJ.right.right
              · (try simp only [aA] at h11)
                refine bT O (dL O (bJ 5 bD O ay O (fV aH O Ce.get.2 O (bP O (Z (dY O O) (fP O (bH O (fun h12 => ?_) (fun h12 => ?_))))))))
                · (try simp only [aA] at h12)
                  refine aC (jO O O (dL O (bJ 5 bD O ay O (aI (jM Ce ay O O O (by rw [ng]; decide)) ?_))))
                  rintro _ w26 Vo
                  rw [su] at Vo
                  refine bY (aK (aW (aO ?_)))
                  have vN := Vo.LW
                  refine aC (Z (dM bf O cO O O vN.get.2) (aI (gK (cs := jS i (.slice ad ((L.drop i).take (j - i)).length cd) (.slice ai l.length ci)) vN.r6 cO O O O O (qx O O)) ?_))
                  rintro _ w27 IW
                  refine fC O ?_
                  refine oH (.inl O) kD O O bf O (by rw [sQ]; rfl) IW.get.2 ?_
                  refine ⟨_, _, O, ?_⟩
                  first
                    | rw [show fD pt i j l.length = pt + ((l.length : Int) - ((j : Int) - i)) from by unfold fD; rw [if_pos (by omega)]]
                    | rw [show fD pt i j l.length = (i : Int) + l.length from by unfold fD; rw [if_neg (by omega), if_pos (by omega)]]
                    | rw [show fD pt i j l.length = pt from by unfold fD; rw [if_neg (by omega), if_neg (by omega)]]
                  first
                    | rw [show fK mk i j l.length = mk + ((l.length : Int) - ((j : Int) - i)) from by unfold fK; rw [if_pos (by omega)]]
                    | rw [show fK mk i j l.length = (i : Int) from by unfold fK; rw [if_neg (by omega), if_pos (by omega)]]
                    | rw [show fK mk i j l.length = mk from by unfold fK; rw [if_neg (by omega), if_neg (by omega)]]
                  refine (V.vJ (f := i + l.length) (t := i + l.length + 16 + (j - i)) (v := .slice ax (lq L i l.length).length cx) (xs := jk (lq L i l.length) i l) (by omega) (by rw [fB (by omega)]; omega) hL' (by omega) (by rw [fB (by omega)]; omega) (by omega) (by omega) ?_).d3.swap
                  rw [show ((i + l.length : Nat) : Int) = (i : Int) + l.length from by omega, show ((i + l.length + 16 + (j - i) : Nat) : Int) = ((i + l.length + 16 : Nat) : Int) + ((j : Int) - i) from by omega]
                  exact IW.right.right
                · (try simp only [aA] at h12)
                  refine dn (aK (aW (aO ?_)))
                  have vN := Ce.LW
                  refine aC (Z (dM bf O cO O O vN.get.2) (aI (gK (cs := jS i (.slice ad ((L.drop i).take (j - i)).length cd) (.slice ai l.length ci)) vN.r6 cO O O O O (qx O O)) ?_))
                  rintro _ w28 H28
                  refine fC O ?_
                  refine oH (.inl O) kD O O bf O (by rw [sQ]; rfl) H28.get.2 ?_
                  refine ⟨_, _, O, ?_⟩
                  first
                    | rw [show fD pt i j l.length = pt + ((l.length : Int) - ((j : Int) - i)) from by unfold fD; rw [if_pos (by omega)]]
                    | rw [show fD pt i j l.length = (i : Int) + l.length from by unfold fD; rw [if_neg (by omega), if_pos (by omega)]]
                    | rw [show fD pt i j l.length = pt from by unfold fD; rw [if_neg (by omega), if_neg (by omega)]]
                  first
                    | rw [show fK mk i j l.length = mk + ((l.length : Int) - ((j : Int) - i)) from by unfold fK; rw [if_pos (by omega)]]
                    | rw [show fK mk i j l.length = (i : Int) from by unfold fK; rw [if_neg (by omega), if_pos (by omega)]]
                    | rw [show fK mk i j l.length = mk from by unfold fK; rw [if_neg (by omega), if_neg (by omega)]]
                  refine (V.vJ (f := i + l.length) (t := i + l.length + 16 + (j - i)) (v := .slice ax (lq L i l.length).length cx) (xs := jk (lq L i l.length) i l) (by omega) (by rw [fB (by omega)]; omega) hL' (by omega) (by rw [fB (by omega)]; omega) (by omega) (by omega) ?_).d3.swap
                  rw [show ((i + l.length : Nat) : Int) = (i : Int) + l.length from by omega, show ((i + l.length + 16 + (j - i) : Nat) : Int) = ((i + l.length + 16 : Nat) : Int) + ((j : Int) - i) from by omega]
                  exact H28.right.right
            · (try simp only [aA] at h10)
              refine dn (aK (aW (aO (aY (bT O (dL O (bJ 5 bD O ay O (fV aH O uY.get.2 O (bP O (Z (dY O O) (fP O (bH O (fun h13 => ?_) (fun h13 => ?_)))))))))))))
              · (try simp only [aA] at h13)
                refine aC (nK O O (bJ 5 bD O ay O (fV aH O uY.get.2 O (bP O (Z (jc aj O) (jO O O (Z (iZ O O (by omega)) (Z (iZ O O (by omega)) (Z (fO O O (by omega)) (dL O (bJ 5 bD O ay O (aI (jM uY ay O O O (by rw [ng]; decide)) ?_))))))))))))
                rintro _ w29 X6
                rw [su] at X6
                refine bY (aK (aW (aO ?_)))
                have vN := X6.LW
                refine aC (Z (dM bf O cO O O vN.get.2) (aI (gK (cs := jS i (.slice ad ((L.drop i).take (j - i)).length cd) (.slice ai l.length ci)) vN.r6 cO O O O O (qx O O)) ?_))
                rintro _ w30 Vp
                refine fC O ?_
                refine oH (.inl O) kD O O bf O (by rw [sQ]; rfl) Vp.get.2 ?_
                refine ⟨_, _, O, ?_⟩
                first
                  | rw [show fD pt i j l.length = pt + ((l.length : Int) - ((j : Int) - i)) from by unfold fD; rw [if_pos (by omega)]]
                  | rw [show fD pt i j l.length = (i : Int) + l.length from by unfold fD; rw [if_neg (by omega), if_pos (by omega)]]
                  | rw [show fD pt i j l.length = pt from by unfold fD; rw [if_neg (by omega), if_neg (by omega)]]
                first
                  | rw [show fK mk i j l.length = mk + ((l.length : Int) - ((j : Int) - i)) from by unfold fK; rw [if_pos (by omega)]]
                  | rw [show fK mk i j l.length = (i : Int) from by unfold fK; rw [if_neg (by omega), if_pos (by omega)]]
                  | rw [show fK mk i j l.length = mk from by unfold fK; rw [if_neg (by omega), if_neg (by omega)]]
                refine (V.vJ (f := i + l.length) (t := i + l.length + 16 + (j - i)) (v := .slice ax (lq L i l.length).length cx) (xs := jk (lq L i l.length) i l) (by omega) (by rw [fB (by omega)]; omega) hL' (by omega) (by rw [fB (by omega)]; omega) (by omega) (by omega) ?_).d3.swap
                rw [show ((i + l.length : Nat) : Int) = (i : Int) + l.length from by omega, show ((i + l.length + 16 + (j - i) : Nat) : Int) = ((i + l.length + 16 : Nat) : Int) + ((j : Int) - i) from by omega]
                exact Vp.right.right
              · (try simp only [aA] at h13)
                refine bT O (dL O (bJ 5 bD O ay O (fV aH O uY.get.2 O (bP O (Z (dY O O) (fP O (bH O (fun h14 => ?_) (fun h14 => ?_))))))))
                · (try simp only [aA] at h14)
                  refine aC (jO O O (dL O (bJ 5 bD O ay O (aI (jM uY ay O O O (by rw [ng]; decide)) ?_))))
                  rintro _ w31 SV
                  rw [su] at SV
                  refine bY (aK (aW (aO ?_)))
                  have vN := SV.LW
                  refine aC (Z (dM bf O cO O O vN.get.2) (aI (gK (cs := jS i (.slice ad ((L.drop i).take (j - i)).length cd) (.slice ai l.length ci)) vN.r6 cO O O O O (qx O O)) ?_))
                  rintro _ w32 NH
                  refine fC O ?_
                  refine oH (.inl O) kD O O bf O (by rw [sQ]; rfl) NH.get.2 ?_
                  refine ⟨_, _, O, ?_⟩
                  first
                    | rw [show fD pt i j l.length = pt + ((l.length : Int) - ((j : Int) - i)) from by unfold fD; rw [if_pos (by omega)]]
                    | rw [show fD pt i j l.length = (i : Int) + l.length from by unfold fD; rw [if_neg (by omega), if_pos (by omega)]]
                    | rw [show fD pt i j l.length = pt from by unfold fD; rw [if_neg (by omega), if_neg (by omega)]]
                  first
                    | rw [show fK mk i j l.length = mk + ((l.length : Int) - ((j : Int) - i)) from by unfold fK; rw [if_pos (by omega)]]
                    | rw [show fK mk i j l.length = (i : Int) from by unfold fK; rw [if_neg (by omega), if_pos (by omega)]]
                    | rw [show fK mk i j l.length = mk from by unfold fK; rw [if_neg (by omega), if_neg (by omega)]]
                  refine (V.vJ (f := i + l.length) (t := i + l.length + 16 + (j - i)) (v := .slice ax (lq L i l.length).length cx) (xs := jk (lq L i l.length) i l) (by omega) (by rw [fB (by omega)]; omega) hL' (by omega) (by rw [fB (by omega)]; omega) (by omega) (by omega) ?_).d3.swap
                  rw [show ((i + l.length : Nat) : Int) = (i : Int) + l.length from by omega, show ((i + l.length + 16 + (j - i) : Nat) : Int) = ((i + l.length + 16 : Nat) : Int) + ((j : Int) - i) from by omega]
                  exact NH.right.right
                · (try simp only [aA] at h14)
                  refine dn (aK (aW (aO ?_)))
                  have vN := uY.LW
                  refine aC (Z (dM bf O cO O O vN.get.2) (aI (gK (cs := jS i (.slice ad ((L.drop i).take (j - i)).length cd) (.slice ai l.length ci)) vN.r6 cO O O O O (qx O O)) ?_))
                  rintro _ w33 WI
                  refine fC O ?_
                  refine oH (.inl O) kD O O bf O (by rw [sQ]; rfl) WI.get.2 ?_
                  refine ⟨_, _, O, ?_⟩
                  first
                    | rw [show fD pt i j l.length = pt + ((l.length : Int) - ((j : Int) - i)) from by unfold fD; rw [if_pos (by omega)]]
                    | rw [show fD pt i j l.length = (i : Int) + l.length from by unfold fD; rw [if_neg (by omega), if_pos (by omega)]]
                    | rw [show fD pt i j l.length = pt from by unfold fD; rw [if_neg (by omega), if_neg (by omega)]]
                  first
                    | rw [show fK mk i j l.length = mk + ((l.length : Int) - ((j : Int) - i)) from by unfold fK; rw [if_pos (by omega)]]
                    | rw [show fK mk i j l.length = (i : Int) from by unfold fK; rw [if_neg (by omega), if_pos (by omega)]]
                    | rw [show fK mk i j l.length = mk from by unfold fK; rw [if_neg (by omega), if_neg (by omega)]]
                  refine (V.vJ (f := i + l.length) (t := i + l.length + 16 + (j - i)) (v := .slice ax (lq L i l.length).length cx) (xs := jk (lq L i l.length) i l) (by omega) (by rw [fB (by omega)]; omega) hL' (by omega) (by rw [fB (by omega)]; omega) (by omega) (by omega) ?_).d3.swap
                  rw [show ((i + l.length : Nat) : Int) = (i : Int) + l.length from by omega, show ((i + l.length + 16 + (j - i) : Nat) : Int) = ((i + l.length + 16 : Nat) : Int) + ((j : Int) - i) from by omega]
                  exact WI.right.right
end
def Yt (n : Nat) (pt x : Int) : Int := if 0 ≤ x ∧ x ≤ n then x else pt
def mvE (n : Nat) (x : Int) : Int := if 0 ≤ x ∧ x ≤ n then 0 else 70
def wM (v : Value) (pt mk : Int) : Array Value := #[v, .int .i64 pt, .int .i64 mk]
theorem WJ {v : Value} {pt mk : Int} (h : v.oneCell' = true) : ∀ u ∈ (wM v pt mk).toList, u.oneCell' = true := by
  intro u hu
  simp [wM] at hu
  rcases hu with rfl | rfl | rfl
  · exact h
  · rfl
  · rfl
section
variable {w0 w : World} {F : HP} {p : Nat} {L : List Int} {pt mk x : Int} {v : Value} {l : List Int}
theorem OH (H : V w0 w (iQ p L pt mk • F)) : iI prog 82 #[.pointer (some ⟨p, 0, none⟩), .int .i64 x] w fun v w' => v = .int .i64 (mvE L.length x) ∧ V w0 w' (iQ p L (Yt L.length pt x) mk • F) := by
 refine oN func82 ntmps82 ?_
 refine jR O (aO (aY (bT O (dS O func131 (vM H) ?_))))
 rintro _ _ ⟨rfl, rfl⟩
 refine fP O (bH O (fun h1 => ?_) (fun h1 => ?_))
 ·(try simp only [aA] at h1)
  exfalso; first | contradiction | omega
 ·(try simp only [aA] at h1)
  refine bT O (Z (gB O O) (jJ O (fun h2 => ?_) (fun h2 => ?_)))
  ·(try simp only [aA] at h2)
   refine bF (bF (bF (bF (jh O O (fP O (C9 (jP O (aT (aB (dK results82 O ?_))))))))))
   exact ⟨by rw [mvE, if_neg (by omega)], by rw [Yt, if_neg (by omega)]; exact H⟩
  ·(try simp only [aA] at h2)
   refine bg (bP O (bg (bP O (bg (dS O func132 (uw H) ?_)))))
   rintro _ w2 ⟨rfl, hD⟩
   have HL := H.xg hD
   refine bg (Z (dY O O) (ig O O (fP O (bH O (fun h3 => ?_) (fun h3 => ?_)))))
   ·(try simp only [aA] at h3)
    refine jP O (aT (aB (dK results82 O ?_)))
    exact ⟨by rw [mvE, if_neg (by omega)], by rw [Yt, if_neg (by omega)]; exact HL⟩
   ·(try simp only [aA] at h3)
    refine dn (aK (aW (aO ?_)))
    obtain ⟨a, c, xs, f, t, h11, h12, h13, h14, h15, h16, h17, hc1, hc2, hl, HB⟩ := HL.buf
    refine aC (jO O O (dL O (bJ 4 bD O ay O (aI (jM HB ay O O O (by rw [ng]; decide)) ?_))))
    rintro _ w3 H3
    rw [Af] at H3
    refine iL (jP O (dK results82 O ?_))
    exact ⟨by rw [mvE, if_pos (by omega)], by rw [Yt, if_pos (by omega)]; exact V.vJ h11 h12 h13 h14 h15 (by omega) h17 H3⟩
theorem Gh (H : V w0 w (iQ p L pt mk • F)) : iI prog 79 #[.pointer (some ⟨p, 0, none⟩)] w fun v' w' => ∃ u, v' = .agg (wM u pt mk) ∧ V w0 w' (jW 21 .i32 u L • iQ p L pt mk • F) := by
 refine jr func79 ntmps79 ?_
 refine iV (jV (zN H zeroValue46) ?_)
 rintro _ w1 ⟨b1, rfl, H1⟩
 refine rZ O (dS O func126 (yC H1.swap) ?_)
 rintro u w2 H2
 obtain ⟨au, cu, hu, _⟩ := (H2.aQ).form
 subst hu
 refine bP O (dS O func127 (L8 H2.swap) ?_)
 rintro _ _ ⟨rfl, rfl⟩
 refine bP O (dS O func128 (OE H2.swap) ?_)
 rintro _ _ ⟨rfl, rfl⟩
 refine Z (mF (pl := #[(0, 1), (1, 1), (2, 1)]) (wM (.slice au L.length cu) pt mk) jF zeroValue46 (fun w => by kernel_rfl) O (by kernel_rfl)) (aI (gK (cs := wM (.slice au L.length cu) pt mk) H2.LW sizeOf46 O O O O (WJ O)) ?_)
 rintro _ w5 H5
 refine zkc ?_
 refine aaF (.inl O) results79 O jF O (by rw [Yu]; rfl) H5.get.2 ?_
 exact ⟨_, O, H5.right⟩
end
end Go.Proofs.YtpdeedplgmbopaaGreatDoor
end
section
namespace Go.Proofs.YtpdeedplgmbopaaGreatDoor
open Go.RowKit
def Yv (g : Int → Bool) (l : List Int) (at_ : Nat) : Nat := at_ + ((l.drop at_).takeWhile g).length
def Yw (g : Int → Bool) (l : List Int) (at_ : Nat) : Nat := at_ - ((l.take at_).reverse.takeWhile g).length
def Gi (n : Nat) (x : Int) : Nat := (min (max x 0) n).toNat
section
variable {w0 w : World} {F G : HP} {v fv : Value} {l : List Int} {g : Int → Bool}
def adY (l : List Int) (x : Int) : Nat := Yv dZ l (Yv (fun r => !dZ r) l (Gi l.length x))
def acv (l : List Int) (x : Int) : Nat := Yw dZ l (Yw (fun r => !dZ r) l (Gi l.length x))
def Vq (r : Int) : Bool := decide (Dh r ≠ 0) || lD r
def agX (l : List Int) (x : Int) : Nat := if Gi l.length x < l.length then Yv (fun r => !Vq r) l (Gi l.length x + 1) else l.length
def agY (l : List Int) (x : Int) : Nat := Yw (fun r => !Vq r) l (Gi l.length x) - 1
end
section
variable {w0 w : World} {F : HP} {p : Nat} {L : List Int} {pt mk : Int} {v : Value} {l : List Int}
end

section
variable {w0 w : World} {F : HP} {p : Nat} {L : List Int} {pt mk a : Int} {d i : Value} {dl il : List Int}
end
end Go.Proofs.YtpdeedplgmbopaaGreatDoor
end
section
namespace Go.Proofs.YtpdeedplgmbopaaGreatDoor
open Go.RowKit
open _root_.Go.Proofs.Tryz
def nX (L : List Int) (i j : Int) (l : List Int) : Int := if i < 0 ∨ L.length < i ∨ j < i ∨ L.length < j then 70 else if 1024 < L.length - (j - i) + l.length then 3 else 0
def sZ (L : List Int) (i j : Int) (l : List Int) : List Int := if nX L i j l = 0 then L.take i.toNat ++ l ++ L.drop j.toNat else L
def tq (L : List Int) (pt i j : Int) (l : List Int) : Int := if nX L i j l = 0 then fD pt i j l.length else pt
def wB (L : List Int) (mk i j : Int) (l : List Int) : Int := if nX L i j l = 0 then fK mk i j l.length else mk
def wC (L : List Int) (i j : Int) (l : List Int) : Int := if nX L i j l = 0 then i else 0
def pY (L : List Int) (i j : Int) (l : List Int) : List Int := if nX L i j l = 0 then (L.drop i.toNat).take (j - i).toNat else []
def qc (L : List Int) (i j : Int) (l : List Int) : List Int := if nX L i j l = 0 then l else []
section
variable {w0 w : World} {F : HP} {p : Nat} {L : List Int} {pt mk : Int} {v d s : Value} {l dl il : List Int} {i j a x : Int}
theorem Jk (H : V w0 w (iQ p L pt mk • F)) (hr : jE w0 F .i32 v l) :
    iI prog 202 #[.pointer (some ⟨p, 0, none⟩), .int .i64 i, .int .i64 j, v] w fun v' w' => ∃ d s, v' = .tuple #[.agg #[.int .i64 (wC L i j l), d, s], .int .i64 (nX L i j l)] ∧
      V w0 w' (jW 21 .i32 d (pY L i j l) • jW 21 .i32 s (qc L i j l) • iQ p (sZ L i j l) (tq L pt i j l) (wB L mk i j l) • F) := by
  unfold wC sZ tq wB pY qc
  by_cases h1 : i < 0 ∨ L.length < i ∨ j < i ∨ L.length < j
  · have e : nX L i j l = 70 := by unfold nX; rw [if_pos h1]
    simp only [e, show ¬ (70 : Int) = 0 from by decide, if_false]
    exact (Jj H hr h1).mono fun v' w' h => ⟨_, _, h.1, (h.2.F9 none).F9 none⟩
  · have h2 : 0 ≤ i ∧ i ≤ j ∧ j ≤ L.length := by omega
    by_cases h3 : 1024 < L.length - (j - i) + l.length
    · have e : nX L i j l = 3 := by unfold nX; rw [if_neg h1, if_pos h3]
      simp only [e, show ¬ (3 : Int) = 0 from by decide, if_false]
      exact (Hy H hr h2 h3).mono fun v' w' h => ⟨_, _, h.1, (h.2.F9 none).F9 none⟩
    · have e : nX L i j l = 0 := by unfold nX; rw [if_neg h1, if_neg h3]
      simp only [e, if_true]
      obtain ⟨i', rfl⟩ := Int.eq_ofNat_of_zero_le h2.1
      obtain ⟨j', rfl⟩ := Int.eq_ofNat_of_zero_le (show 0 ≤ j by omega)
      have hij : i' ≤ j' ∧ j' ≤ L.length := by omega
      have := J4 (i := i') (j := j') H hr hij (by omega)
      simpa only [Int.toNat_natCast, show ((j' : Int) - (i' : Int)).toNat = j' - i' from by omega, jS] using this
def smE (L : List Int) (x : Int) : Int := if x < -1 ∨ L.length < x then 70 else 0
def smM (L : List Int) (mk x : Int) : Int := if x < -1 ∨ L.length < x then mk else x
def swE (mk : Int) : Int := if mk < 0 then 6 else 0
def swP (pt mk : Int) : Int := if mk < 0 then pt else mk
def swM (pt mk : Int) : Int := if mk < 0 then mk else pt
theorem L9 (H : V w0 w (iQ p L pt mk • F)) : iI prog 129 #[.pointer (some ⟨p, 0, none⟩)] w fun v' w' => ∃ q, v' = .pointer (some ⟨q, 0, none⟩) ∧ V w0 w' (iQ q L pt mk • iQ p L pt mk • F) := by
 refine jr func129 ntmps129 ?_
 refine jR O (aO (bT O (dS O func131 (vM H) ?_)))
 rintro _ _ ⟨rfl, rfl⟩
 refine iL (qH (gQ (aO ?_)))
 obtain ⟨ahn, aho, ahp, f_p, t_p, adZ, ad0, ad1, ad2, ad3, ad4, ahq, ahr, ahs, agZ, ad5⟩ := (H).buf
 refine aC (nK O O (Z (dM bD O sizeOf197 O O (ad5).get.2) (jV (iy (l := [_, _, _, _, _, _]) ad5 zeroValue197 O) ?_)))
 rintro _ w3 ⟨b3, rfl, H3⟩
 refine aI (dw 0 (l' := [_, _, _, _, _, _]) (us := [_, _, _, _, _, _]) H3 sizeOf197 O O O (aG (aX (by first | rfl | exact Rd.one ((H3.f3).aQ)) (aG (aG (aG (aG bQ)))))) O O) ?_
 rintro _ w4 H4
 refine rZ O (dL O (bJ 1 bD O dh O (fV aj O (H4.f2).get.2 O (dS O func71 (oz H4 (fun W HW => (HW.f3).aQ) (by omega)) ?_))))
 rintro u5 w5 H5
 refine bJ 1 bD O dh O (aI (fU 1 (l' := [_, _, _, _, _, _]) H5.f2 dh O O (by first | rfl | exact Rd.one ((H5).aQ)) O O) ?_)
 rintro _ w6 H6
 refine iL (jP O (dK results129 O ?_))
 exact ⟨_, O, (V.vJ adZ ad0 ad1 ad2 ad3 ad4 (by omega) (V.vJ adZ ad0 ad1 ad2 ad3 ad4 (by omega) H6.f4.f4.f4.f4).f2.f3.f2).f2⟩
def ad6 (L : List Int) (a : Int) (dl : List Int) : Bool := decide ((dl.length : Int) ≤ L.length - a) && ((L.drop a.toNat).take dl.length == dl)
def acw (L : List Int) (a : Int) (dl il : List Int) : Int := if a < 0 ∨ L.length < a then 70 else if ad6 L a dl then nX L a (a + dl.length) il else 71
def afr (L : List Int) (a : Int) (dl il : List Int) : List Int := if acw L a dl il = 0 then sZ L a (a + dl.length) il else L
def afs (L : List Int) (pt a : Int) (dl il : List Int) : Int := if acw L a dl il = 0 then tq L pt a (a + dl.length) il else pt
def afu (L : List Int) (mk a : Int) (dl il : List Int) : Int := if acw L a dl il = 0 then wB L mk a (a + dl.length) il else mk
end
end Go.Proofs.YtpdeedplgmbopaaGreatDoor
end
