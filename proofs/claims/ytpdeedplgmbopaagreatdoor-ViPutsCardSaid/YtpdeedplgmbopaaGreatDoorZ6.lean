import Derived.Test.YtpdeedplgmbopaaGreatDoorZ4
import Derived.Test.YtpdeedplgmbopaaGreatDoorZ5
import Derived.Test.YtpdeedplgmbopaaGreatDoorZ3
set_option linter.unusedSimpArgs false
set_option linter.unusedVariables false
/- Texts of mine, joined, their names in short: Buf Buf2 Buf3 LineP Move BLive Same Apply BufP. -/
section
namespace Go.Proofs.YtpdeedplgmbopaaGreatDoor
open Go.RowKit
open _root_.Go.Proofs.Tryz
theorem Qz {s i j : Nat} {v : Value} (h : v.oneCell' = true) : (vJ s i j v).oneCell' = true := by cases v <;> simp_all [vJ, Value.oneCell']
def je (v : Value) (f t pt mk : Int) : Array Value := #[.bool true, v, .int .i64 f, .int .i64 t, .int .i64 pt, .int .i64 mk]
theorem aaZ {a b : Value} (h : a.oneCell' = true) (k : b.oneCell' = true) : ∀ u ∈ [a, b], u.oneCell' = true := by
  intro u hu; simp at hu; rcases hu with rfl | rfl
  · exact h
  · exact k
section
variable {v u : Value} {f t pt mk x : Int}
theorem ny : (je v f t pt mk).size = 6 := rfl
theorem WU : (je v f t pt mk).setIfInBounds 1 u = je u f t pt mk := rfl
theorem BJ : (je v f t pt mk).setIfInBounds 2 (.int .i64 x) = je v x t pt mk := rfl
theorem Fq : (je v f t pt mk).setIfInBounds 3 (.int .i64 x) = je v f x pt mk := rfl
theorem Ar : (je v f t pt mk).setIfInBounds 4 (.int .i64 x) = je v f t x mk := rfl
theorem sJ : (je v f t pt mk).setIfInBounds 5 (.int .i64 x) = je v f t pt x := rfl
end
def iP (p : Nat) (L : List Int) (pt mk : Int) : HP := wE fun (x : Value × List Int × Nat × Nat) =>
  fact (x.2.2.1 ≤ x.2.2.2 ∧ x.2.2.2 ≤ x.2.1.length ∧ L = x.2.1.take x.2.2.1 ++ x.2.1.drop x.2.2.2 ∧ L.length ≤ 1024 ∧ x.2.1.length ≤ 4096 ∧ (0 ≤ pt ∧ pt ≤ L.length) ∧ (-1 ≤ mk ∧ mk ≤ L.length)) •
    dW p (.cells (je x.1 x.2.2.1 x.2.2.2 pt mk) 197 (0, 0)) • ku 21 .i32 x.1 x.2.1
section
variable {w0 w : World} {F : HP} {p : Nat} {L : List Int} {pt mk : Int}
theorem V.buf (H : V w0 w (iP p L pt mk • F)) : ∃ (a : Option Addr) (c : Nat) (xs : List Int) (f t : Nat), f ≤ t ∧ t ≤ xs.length ∧ L = xs.take f ++ xs.drop t ∧ L.length ≤ 1024 ∧ xs.length ≤ 4096 ∧ (0 ≤ pt ∧ pt ≤ L.length) ∧ (-1 ≤ mk ∧ mk ≤ L.length) ∧ xs.length ≤ c ∧ (c : Int) ≤ 9223372036854775807 ∧ L.length + t = xs.length + f ∧
    V w0 w (dW p (.cells (je (.slice a xs.length c) f t pt mk) 197 (0, 0)) • ku 21 .i32 (.slice a xs.length c) xs • F) := by
  obtain ⟨⟨v, xs, f, t⟩, H⟩ := H.nX
  obtain ⟨⟨h1, h2, h3, h4, h5, h6, h7⟩, H⟩ := H.flat.fact
  have H := H.flat
  obtain ⟨a, c, hv, hc1, hc2, _⟩ := (H.swap.aS).form
  dsimp only at *
  subst hv
  refine ⟨a, c, xs, f, t, h1, h2, h3, h4, h5, h6, h7, hc1, hc2, ?_, H⟩
  rw [h3]; simp; omega
theorem V.uM {v : Value} {xs : List Int} {f t : Nat} (h1 : f ≤ t) (h2 : t ≤ xs.length) (h3 : L = xs.take f ++ xs.drop t) (h4 : L.length ≤ 1024) (h5 : xs.length ≤ 4096) (h6 : 0 ≤ pt ∧ pt ≤ L.length) (h7 : -1 ≤ mk ∧ mk ≤ L.length)
    (H : V w0 w (dW p (.cells (je v f t pt mk) 197 (0, 0)) • ku 21 .i32 v xs • F)) : V w0 w (iP p L pt mk • F) :=
  V.jw (v, xs, f, t) (V.deep (V.lK ⟨h1, h2, h3, h4, h5, h6, h7⟩ (V.deep H)))
theorem vN (t : TypeId) {cs : Array Value} {fr : Nat × Nat} {m : Bool} (hb : w.heap[p]? = some (.cells cs t fr)) (h0 : cs[0]? = some (.bool m)) :
    iE prog 131 #[.pointer (some ⟨p, 0, none⟩)] w fun v w' => v = .bool (!m) ∧ w = w' := by
  refine iZ func131 ntmps131 ?_
  refine jQ O (bQ O (Z (jy jH O O) (Yh O (fun h1 => ?_))))
  (try simp only [aA] at h1)
  refine bg (bT O (bg (dK O (bg (bJ 0 bH O aP O (bg (fM bY O hb h0 (bg (Z (lJ O) (iH O O (fB O (dL results131 O ?_))))))))))))
  exact ⟨O, O⟩
theorem rQ (H : V w0 w (iP p L pt mk • F)) : iE prog 132 #[.pointer (some ⟨p, 0, none⟩)] w fun v w' => v = .int .i64 L.length ∧ zS w w' := by
 obtain ⟨a, c, xs, f, t, h1, h2, h3, h4, h5, h6, h7, hc1, hc2, hl, H1⟩ := H.buf
 have hb := H1.get.2
 refine iZ func132 ntmps132 ?_
 refine jQ O (aN (bQ O (dS O func131 (vN _ hb O) ?_)))
 rintro _ _ ⟨rfl, rfl⟩
 refine iJ (qo (gG (aN ?_)))
 refine qM (n := 16) [0, 1, 2, 3, 4, 5, 6, 7, 8, 9, 10, 11, 12, 13, 14, 15] (fun W => W.heap = w.heap) (by kernel_rfl) (by kernel_rfl) O ?_
 have hS0 : (fun W => W.heap = w.heap) (w.drew) := rfl
 have H3d := H1.drew
 refine iQ 0 O hS0 O (jU 1 O hS0 O (gU 2 O hS0 1 bH O dh O ?_))
 refine jO 3 O hS0 (fun W hW => jV aj O (by rw [hW]; exact hb) O) ?_
 refine jC 4 O hS0 (fun _ => jd aj O) (iQ 5 O hS0 O (jU 6 O hS0 O (gU 7 O hS0 3 bH O ay O ?_)))
 refine jO 8 O hS0 (fun W hW => jV aH O (by rw [hW]; exact hb) O) ?_
 refine iQ 9 O hS0 O (jU 10 O hS0 O (gU 11 O hS0 2 bH O ay O ?_))
 refine jO 12 O hS0 (fun W hW => jV aH O (by rw [hW]; exact hb) O) ?_
 refine jC 13 O hS0 (fun _ => iV O O (by omega)) (jC 14 O hS0 (fun _ => iV O O (by omega)) (jC 15 O hS0 (fun _ => dR O) (qV (aX (nI (dL results132 O ?_))))))
 exact ⟨by congr 1; omega, zS.refl _ |>.drew⟩
theorem xw (H : V w0 w (iP p L pt mk • F)) : iE prog 127 #[.pointer (some ⟨p, 0, none⟩)] w fun v w' => v = .int .i64 pt ∧ w = w' := by
  obtain ⟨a, c, xs, f, t, h1, h2, h3, h4, h5, h6, h7, hc1, hc2, hl, H1⟩ := H.buf
  have hb := H1.get.2
  refine iZ func127 ntmps127 ?_
  refine jQ O (aN (bQ O (dS O func131 (vN _ hb O) ?_)))
  rintro _ _ ⟨rfl, rfl⟩
  refine iJ (qo (gG (bQ O (dK O (bJ 4 bH O ay O (fM aH O hb O (fB O (dL results127 O ?_))))))))
  exact ⟨O, O⟩
theorem OU (H : V w0 w (iP p L pt mk • F)) : iE prog 128 #[.pointer (some ⟨p, 0, none⟩)] w fun v w' => v = .int .i64 mk ∧ w = w' := by
  obtain ⟨a, c, xs, f, t, h1, h2, h3, h4, h5, h6, h7, hc1, hc2, hl, H1⟩ := H.buf
  have hb := H1.get.2
  refine iZ func128 ntmps128 ?_
  refine jQ O (aN (bQ O (dS O func131 (vN _ hb O) ?_)))
  rintro _ _ ⟨rfl, rfl⟩
  refine iJ (qo (gG (bQ O (dK O (bJ 5 bH O ay O (fM aH O hb O (fB O (dL results128 O ?_))))))))
  exact ⟨O, O⟩
theorem yK (H : V w0 w (iP p L pt mk • F)) : iE prog 126 #[.pointer (some ⟨p, 0, none⟩)] w fun v w' => V w0 w' (ku 21 .i32 v L • iP p L pt mk • F) := by
 obtain ⟨a, c, xs, f, t, h1, h2, h3, h4, h5, h6, h7, hc1, hc2, hl, H1⟩ := H.buf
 have hb := H1.get.2
 refine iZ func126 ntmps126 ?_
 refine jQ O (aN (bQ O (dS O func131 (vN _ hb O) ?_)))
 rintro _ _ ⟨rfl, rfl⟩
 refine iJ (qo (gG (aN ?_)))
 refine qM (n := 21) [0, 1, 2, 3, 4, 5, 6, 7, 8, 9, 10, 11, 12, 13, 14, 15, 16, 17, 18, 19, 20] (fun W => W.heap[p]? = some (.cells (je (.slice a xs.length c) f t pt mk) 197 (0, 0))) (by kernel_rfl) (by kernel_rfl) O ?_
 have hS0 : (fun W => W.heap[p]? = some (.cells (je (.slice a xs.length c) f t pt mk) 197 (0, 0))) (w.drew) := hb
 have H3d := H1.drew
 refine iQ 0 O hS0 O (jU 1 O hS0 O (gU 2 O hS0 1 bH O dh O (jO 3 O hS0 (fun W hW => jV aj O hW O) (iQ 4 O hS0 O (jU 5 O hS0 O (gU 6 O hS0 2 bH O ay O (jO 7 O hS0 (fun W hW => jV aH O hW O) (jC 8 O hS0 (fun _ => xu aj bZ O O O (by omega)) ?_))))))))
 refine iQ 9 O hS0 O (jU 10 O hS0 O (gU 11 O hS0 1 bH O dh O (jO 12 O hS0 (fun W hW => jV aj O hW O) (iQ 13 O hS0 O (jU 14 O hS0 O (gU 15 O hS0 3 bH O ay O (jO 16 O hS0 (fun W hW => jV aH O hW O) (jC 17 O hS0 (fun _ => xu aj bZ O O O (by omega)) ?_))))))))
 refine mZ 18 O (Vt (vs := [vJ 1 0 f (.slice a xs.length c), vJ 1 t xs.length (.slice a xs.length c)]) H3d iW dh zeroValue22 O O O (by decide) (aaZ (Qz O) (Qz O))) ?_
 rintro _ w2 ⟨b2, rfl, H2⟩
 have hS2 : (fun W => W.heap[p]? = some (.cells (je (.slice a xs.length c) f t pt mk) 197 (0, 0))) w2 := H2.swap.get.2
 refine Gl hS2 ?_
 refine mZ 19 O (xq O func172 (Dv (l1 := xs.take f) (l2 := xs.drop t) H2 (fun W HW => gJ.upto HW.LZ.aS (by omega)) (fun W HW => gJ.from HW.LZ.aS (by omega)) (by simp; omega))) ?_
 rintro u w3 H3
 have hS3 : (fun W => W.heap[p]? = some (.cells (je (.slice a xs.length c) f t pt mk) 197 (0, 0))) w3 := H3.LZ.get.2
 refine Gl hS3 ?_
 refine jC 20 O hS3 (fun _ => dR O) (qV (aX (nI (dL results126 O ?_))))
 rw [← h3] at H3
 exact (V.uM h1 h2 h3 h4 h5 h6 h7 H3.swap.right.d3).swap
theorem QA {v : Value} {l : List Int} (H : V w0 w F) (hr : jF w0 F .i32 v l) (hl : l.length ≤ 1024) : iE prog 151 #[v] w fun v' w' => ∃ p, v' = .tuple #[.pointer (some ⟨p, 0, none⟩), .int .i64 0] ∧ V w0 w' (iP p l l.length (-1) • F) := by
 obtain ⟨a, c, rfl, _, _, _⟩ := (hr w H).open
 refine iZ func151 ntmps151 ?_
 refine iR (iK O (uZ O (bQ O (Z (jd aj O) (Z (dY O O) (iJ (TN O (fun h1 => ?_))))))))
 (try simp only [aA] at h1)
 refine gG (bQ O (dS O func71 (oK H hr (by omega)) ?_))
 rintro u w1 H1
 obtain ⟨au, cu, hu, _⟩ := (H1.aS).form
 subst hu
 refine bT O (Z (jd aj O) (Z (mJ (pl := #[(0, 1), (1, 1), (2, 1), (3, 1), (4, 1), (5, 1)]) (je (.slice au l.length cu) 0 0 l.length (-1)) bH zeroValue197 (fun w => by kernel_rfl) O (by kernel_rfl)) (kD (Vs H1 O) ?_)))
 rintro _ w2 ⟨b2, rfl, H2⟩
 refine uZ O ?_
 have HB : V w0 w2 (dW b2 (.cells (je (.slice au l.length cu) 0 0 l.length (-1)) 197 (0, 0)) • ku 21 .i32 (.slice au l.length cu) l • F) := H2
 refine aC (jR O O (bT O (Z (jd aj O) (bT O (Z (jd aj O) (dK O (bJ 2 bH O ay O (aJ (jP HB ay O O O (by rw [ny]; decide)) ?_))))))))
 rintro _ w3 HB1
 rw [BJ] at HB1
 refine dK O (bJ 3 bH O ay O (aJ (jP HB1 ay O O O (by rw [ny]; decide)) ?_))
 rintro _ w4 HB2
 rw [Fq] at HB2
 refine rG O (iK O (fB O (NR results151 O O ?_)))
 exact ⟨_, O, V.uM (f := l.length) (t := l.length) (Nat.le_refl _) (Nat.le_refl _) (by simp) hl (by omega) (by omega) (by omega) HB2⟩
end
def lD (L : List Int) (i r : Nat) : List Int := jl (jl (List.replicate (L.length + r + 16) 0) 0 (L.take i)) (i + r + 16) (L.drop i)
theorem TS {L : List Int} {i r : Nat} (h : i ≤ L.length) : (lD L i r).length = L.length + r + 16 := by
  unfold lD
  rw [fF, fF] <;> simp [fF] <;> first | omega | (rw [fF] <;> simp <;> omega)
theorem IV {l ys : List Int} {i : Nat} (h : i + ys.length ≤ l.length) : (jl l i ys).take (i + ys.length) = l.take i ++ ys := by
  unfold jl
  rw [List.take_append_of_le_length (by simp; omega), List.take_of_length_le (by simp; omega)]
theorem QB {l ys : List Int} {i j : Nat} (h : i + ys.length ≤ j) (h2 : j ≤ l.length) : (jl l i ys).drop j = l.drop j := by
  unfold jl
  rw [List.drop_append, List.drop_eq_nil_of_le (by simp; omega), List.nil_append, List.drop_drop]
  congr 1
  simp
  omega
theorem JZ {l ys : List Int} {i j : Nat} (h : j ≤ i) (h2 : i ≤ l.length) : (jl l i ys).take j = l.take j := by
  unfold jl
  rw [List.append_assoc, List.take_append_of_le_length (by simp; omega), List.take_take, Nat.min_eq_left h]
theorem J3 {l ys : List Int} {i : Nat} (h : i + ys.length = l.length) : (jl l i ys).drop i = ys := by
  unfold jl
  rw [List.append_assoc, List.drop_append, List.drop_eq_nil_of_le (by simp; omega), List.nil_append]
  simp [show i - min i l.length = 0 from by omega, show l.length ≤ i + ys.length from by omega]
theorem QC {L : List Int} {i r : Nat} (h : i ≤ L.length) : (lD L i r).take i = L.take i := by
  have h1 : (jl (List.replicate (L.length + r + 16) (0 : Int)) 0 (L.take i)).length = L.length + r + 16 := by rw [fF] <;> simp; omega
  unfold lD
  rw [JZ (by omega) (by rw [h1]; omega)]
  have := IV (l := List.replicate (L.length + r + 16) (0 : Int)) (ys := L.take i) (i := 0) (by simp; omega)
  rw [show 0 + (L.take i).length = i from by simp; omega] at this
  simpa using this
theorem QD {L : List Int} {i r : Nat} (h : i ≤ L.length) : (lD L i r).drop (i + r + 16) = L.drop i := by
  have h1 : (jl (List.replicate (L.length + r + 16) (0 : Int)) 0 (L.take i)).length = L.length + r + 16 := by rw [fF] <;> simp; omega
  exact J3 (by rw [h1]; simp; omega)
section
variable {w0 w : World} {F : HP} {p : Nat} {L : List Int} {pt mk : Int}
theorem OV {i r : Nat} (H : V w0 w (iP p L pt mk • F)) (hi : i ≤ L.length) (hr : r ≤ 1024) :
  iE prog 214 #[.pointer (some ⟨p, 0, none⟩), .int .i64 i, .int .i64 r] w fun _ w' => ∃ v, V w0 w' (dW p (.cells (je v i (i + r + 16 : Nat) pt mk) 197 (0, 0)) • ku 21 .i32 v (lD L i r) • F) := by
 have hL4 : L.length ≤ 1024 := by obtain ⟨a, c, xs, f, t, h1, h2, h3, h4, h5, h6, h7, hc1, hc2, hl, H1⟩ := H.buf; exact h4
 have e1 : ((L.length : Int) + r + 16).toNat = L.length + r + 16 := by omega
 refine zT func214 ntmps214 ?_
 refine bQ O (dS O func126 (yK H) ?_)
 rintro u w1 H1
 obtain ⟨au, cu, hu, hcu, ahj, _⟩ := (H1.aS).form
 subst hu
 obtain ⟨a, c, xs, f, t, h1, h2, h3, h4, h5, h6, h7, hc1, hc2, hl, HB⟩ := H1.swap.buf
 refine fG O (bQ O (bT O (Z (jd aj O) (bT O (Z (fJ O O (by omega)) (Z (fJ O O (by omega)) (kD (Qq HB aj Du O O (by omega) (by omega) (by omega)) ?_)))))))
 rintro v w2 H2
 rw [e1] at H2
 have hm : (List.replicate (L.length + r + 16) (0 : Int)).length = L.length + r + 16 := by simp
 obtain ⟨av, cv, hv, hcv, hcv2, _⟩ := (H2.aS).form
 rw [hm] at hv hcv
 subst hv
 refine dK O (bJ 1 bH O dh O (aJ (jP H2.swap dh O O O (by rw [ny]; decide)) ?_))
 rintro _ w3 H3
 rw [WU] at H3
 refine rG O (nG O O (bJ 2 bH O ay O (aJ (jP H3 ay O O O (by rw [ny]; decide)) ?_)))
 rintro _ w4 H4
 rw [BJ] at H4
 refine rG O (nG O O (bJ 1 bH O dh O (fM aj O H4.get.2 O (Z (jd aj O) (bT O (Z (jd aj O) (bT O (Z (iV O O (by omega)) (Z (iV O O (by omega)) (dK O (bJ 3 bH O ay O (aJ (jP H4 ay O O O (by rw [ny]; decide)) ?_))))))))))))
 rintro _ w5 H5
 rw [Fq, show (((L.length + r + 16 : Nat) : Int) - ((L.length : Int) - (i : Int))) = ((i + r + 16 : Nat) : Int) from by omega] at H5
 have hb3 := H5.get.2
 refine qQ ?_
 refine qM (n := 8) [0, 1, 2, 3, 4, 5, 6, 7] (fun W => W.heap[p]? = some (.cells (je (.slice av (L.length + r + 16) cv) i (i + r + 16 : Nat) pt mk) 197 (0, 0))) (by kernel_rfl) (by kernel_rfl) O ?_
 have hS0 : (fun W => W.heap[p]? = some (.cells (je (.slice av (L.length + r + 16) cv) i (i + r + 16 : Nat) pt mk) 197 (0, 0))) (w5.drew) := hb3
 have H4d := H5.drew
 refine iQ 0 O hS0 O (jU 1 O hS0 O (gU 2 O hS0 1 bH O dh O (jO 3 O hS0 (fun W hW => jV aj O hW O) (iQ 4 O hS0 O (iQ 5 O hS0 O (jC 6 O hS0 (fun _ => xu aj bZ O O O (by omega)) ?_))))))
 refine mZ 7 O (Dq (i := 0) (m := L.take i) H4d.swap (gJ.upto H4d.r4.aS (by omega)) aj (by kernel_rfl) (by rw [hm, TJ]; rfl) O (by simp; omega)) ?_
 rintro _ w6 ⟨rfl, H6⟩
 have hm2 : (jl (List.replicate (L.length + r + 16) (0 : Int)) 0 (L.take i)).length = L.length + r + 16 := by rw [fF] <;> simp; omega
 refine JO (by kernel_rfl) ?_
 refine qV (aX ?_)
 refine qM (n := 13) [0, 1, 2, 3, 4, 5, 6, 7, 8, 9, 10, 11, 12] (fun W => W.heap[p]? = some (.cells (je (.slice av (L.length + r + 16) cv) i (i + r + 16 : Nat) pt mk) 197 (0, 0))) (by kernel_rfl) (by kernel_rfl) O ?_
 have hS0 : (fun W => W.heap[p]? = some (.cells (je (.slice av (L.length + r + 16) cv) i (i + r + 16 : Nat) pt mk) 197 (0, 0))) (w6.drew) := H6.swap.get.2
 have H5d := H6.drew
 refine iQ 0 O hS0 O (jU 1 O hS0 O (gU 2 O hS0 1 bH O dh O (jO 3 O hS0 (fun W hW => jV aj O hW O) (iQ 4 O hS0 O (jU 5 O hS0 O (gU 6 O hS0 3 bH O ay O (jO 7 O hS0 (fun W hW => jV aH O hW O) (jC 8 O hS0 (fun _ => xu aj bZ O O O (by omega)) ?_))))))))
 refine iQ 9 O hS0 O (iQ 10 O hS0 O (jC 11 O hS0 (fun _ => xu aj bZ O O O (by omega)) ?_))
 refine mZ 12 O (Dq (i := i + r + 16) (m := L.drop i) H5d (gJ.from H5d.r4.aS (by omega)) aj (by kernel_rfl) (by rw [hm2]; rfl) O (by rw [hm2]; simp; omega)) ?_
 rintro _ w7 ⟨rfl, H7⟩
 refine JO (by kernel_rfl) ?_
 refine qV (lM (.inr O) results214 ?_)
 exact ⟨_, H7.swap.LZ.right.LZ.right⟩
theorem sK (H : V w0 w (iP p L pt mk • F)) : iE prog 131 #[.pointer (some ⟨p, 0, none⟩)] w fun v w' => v = .bool false ∧ w = w' := by
  obtain ⟨a, c, xs, f, t, h1, h2, h3, h4, h5, h6, h7, hc1, hc2, hl, H1⟩ := H.buf
  exact vN _ H1.get.2 rfl
def fE (pt i j n : Int) : Int := if j < pt then pt + (n - (j - i)) else if i ≤ pt then i + n else pt
def fQ (mk i j n : Int) : Int := if j < mk then mk + (n - (j - i)) else if i < mk then i else mk
def jW (at_ : Int) (d i : Value) : Array Value := #[.int .i64 at_, d, i]
theorem qF {at_ : Int} {d i : Value} (hd : d.oneCell' = true) (hi : i.oneCell' = true) : ∀ v ∈ (jW at_ d i).toList, v.oneCell' = true := by
  intro v hv
  simp [jW] at hv
  rcases hv with rfl | rfl | rfl <;> first | rfl | assumption
variable {v : Value} {l : List Int} {i j : Int}
theorem Jh (H : V w0 w (iP p L pt mk • F)) (hr : jF w0 F .i32 v l) (hb : i < 0 ∨ L.length < i ∨ j < i ∨ L.length < j) :
  iE prog 202 #[.pointer (some ⟨p, 0, none⟩), .int .i64 i, .int .i64 j, v] w fun v' w' => v' = .tuple #[.agg (jW 0 (.slice none 0 0) (.slice none 0 0)), .int .i64 70] ∧ V w0 w' (iP p L pt mk • F) := by
 obtain ⟨a, c, rfl, _, _, _⟩ := (hr w H.right).open
 refine Qw func202 ntmps202 ?_
 refine iR (kD (Ac H dQ) ?_)
 rintro _ w1 ⟨b1, rfl, H1⟩
 refine fG O (bQ O (dS O func132 (rQ H1.right) ?_))
 rintro _ w2 ⟨rfl, hD⟩
 have HL := H1.y7 hD
 refine uZ O (aY (bQ O (dS O func131 (sK HL.right) ?_)))
 rintro _ _ ⟨rfl, rfl⟩
 refine fG O (bD O (fun h1 => ?_) (fun h1 => ?_))
 ·(try simp only [aA] at h1)
  exfalso; first | contradiction | omega
 ·(try simp only [aA] at h1)
  refine bQ O (Z (fZ O O) (jG O (fun h2 => ?_) (fun h2 => ?_)))
  ·(try simp only [aA] at h2)
   refine bF (bF (bF (iU O O (bT O (bF (bF (bF (iU O O (bT O (bF (bF (bF (iU O O (fG O (CP (iR (Z (mJ (pl := #[(0, 1), (1, 1), (2, 1)]) (jW 0 (.slice none 0 0) (.slice none 0 0)) bf dQ (fun w => by kernel_rfl) O (by kernel_rfl)) (aJ (gQ (cs := jW 0 (.slice none 0 0) (.slice none 0 0)) HL cO O O O O (qF O O)) ?_))))))))))))))))))
   rintro _ w5 H5
   refine fB O (aT (aB ?_))
   refine oO (.inl O) kG O O bf O (by rw [sZ]; rfl) H5.get.2 ?_
   exact ⟨O, H5.right⟩
  ·(try simp only [aA] at h2)
   refine bg (bT O (bg (bT O (bg (Z (dY O O) (iH O O (jG O (fun h3 => ?_) (fun h3 => ?_))))))))
   ·(try simp only [aA] at h3)
    refine bF (bF (bF (iU O O (bT O (bF (bF (bF (iU O O (fG O (CP (iR (Z (mJ (pl := #[(0, 1), (1, 1), (2, 1)]) (jW 0 (.slice none 0 0) (.slice none 0 0)) bf dQ (fun w => by kernel_rfl) O (by kernel_rfl)) (aJ (gQ (cs := jW 0 (.slice none 0 0) (.slice none 0 0)) HL cO O O O O (qF O O)) ?_)))))))))))))
    rintro _ w6 H6
    refine fB O (aT (aB ?_))
    refine oO (.inl O) kG O O bf O (by rw [sZ]; rfl) H6.get.2 ?_
    exact ⟨O, H6.right⟩
   ·(try simp only [aA] at h3)
    refine bg (bT O (bg (bT O (bg (Z (fZ O O) (iH O O (jG O (fun h4 => ?_) (fun h4 => ?_))))))))
    ·(try simp only [aA] at h4)
     refine bF (bF (bF (iU O O (fG O (CP (iR (Z (mJ (pl := #[(0, 1), (1, 1), (2, 1)]) (jW 0 (.slice none 0 0) (.slice none 0 0)) bf dQ (fun w => by kernel_rfl) O (by kernel_rfl)) (aJ (gQ (cs := jW 0 (.slice none 0 0) (.slice none 0 0)) HL cO O O O O (qF O O)) ?_))))))))
     rintro _ w7 H7
     refine fB O (aT (aB ?_))
     refine oO (.inl O) kG O O bf O (by rw [sZ]; rfl) H7.get.2 ?_
     exact ⟨O, H7.right⟩
    ·(try simp only [aA] at h4)
     refine bg (bT O (bg (bT O (bg (Z (dY O O) (iH O O (fG O (wcA O (fun h5 => ?_)))))))))
     (try simp only [aA] at h5)
     refine iR (Z (mJ (pl := #[(0, 1), (1, 1), (2, 1)]) (jW 0 (.slice none 0 0) (.slice none 0 0)) bf dQ (fun w => by kernel_rfl) O (by kernel_rfl)) (aJ (gQ (cs := jW 0 (.slice none 0 0) (.slice none 0 0)) HL cO O O O O (qF O O)) ?_))
     rintro _ w8 H8
     refine fB O (aT (aB ?_))
     refine oO (.inl O) kG O O bf O (by rw [sZ]; rfl) H8.get.2 ?_
     exact ⟨O, H8.right⟩
theorem Hz (H : V w0 w (iP p L pt mk • F)) (hr : jF w0 F .i32 v l) (hb : 0 ≤ i ∧ i ≤ j ∧ j ≤ L.length) (hl : 1024 < L.length - (j - i) + l.length) :
  iE prog 202 #[.pointer (some ⟨p, 0, none⟩), .int .i64 i, .int .i64 j, v] w fun v' w' => v' = .tuple #[.agg (jW 0 (.slice none 0 0) (.slice none 0 0)), .int .i64 3] ∧ V w0 w' (iP p L pt mk • F) := by
 obtain ⟨a, c, rfl, _, _, _⟩ := (hr w H.right).open
 have hL4 : L.length ≤ 1024 := by obtain ⟨a, c, xs, f, t, h1, h2, h3, h4, h5, h6, h7, hc1, hc2, hl, H1⟩ := H.buf; exact h4
 refine Qw func202 ntmps202 ?_
 refine iR (kD (Ac H dQ) ?_)
 rintro _ w1 ⟨b1, rfl, H1⟩
 refine fG O (bQ O (dS O func132 (rQ H1.right) ?_))
 rintro _ w2 ⟨rfl, hD⟩
 have HL := H1.y7 hD
 refine uZ O (aY (bQ O (dS O func131 (sK HL.right) ?_)))
 rintro _ _ ⟨rfl, rfl⟩
 refine fG O (bD O (fun h1 => ?_) (fun h1 => ?_))
 ·(try simp only [aA] at h1)
  exfalso; first | contradiction | omega
 ·(try simp only [aA] at h1)
  refine bQ O (Z (fZ O O) (jG O (fun h2 => ?_) (fun h2 => ?_)))
  ·(try simp only [aA] at h2)
   exfalso; first | contradiction | omega
  ·(try simp only [aA] at h2)
   refine bg (bT O (bg (bT O (bg (Z (dY O O) (iH O O (jG O (fun h3 => ?_) (fun h3 => ?_))))))))
   ·(try simp only [aA] at h3)
    exfalso; first | contradiction | omega
   ·(try simp only [aA] at h3)
    refine bg (bT O (bg (bT O (bg (Z (fZ O O) (iH O O (jG O (fun h4 => ?_) (fun h4 => ?_))))))))
    ·(try simp only [aA] at h4)
     exfalso; first | contradiction | omega
    ·(try simp only [aA] at h4)
     refine bg (bT O (bg (bT O (bg (Z (dY O O) (iH O O (fG O (TN O (fun h5 => ?_)))))))))
     (try simp only [aA] at h5)
     refine bQ O (Z (jd aj O) (jR O O (bT O (Z (iV O O (by omega)) (Z (iV O O (by omega)) (Z (iV O O (by omega)) (Z (dY O O) (fG O (wcA O (fun h6 => ?_))))))))))
     (try simp only [aA] at h6)
     refine iR (Z (mJ (pl := #[(0, 1), (1, 1), (2, 1)]) (jW 0 (.slice none 0 0) (.slice none 0 0)) bf dQ (fun w => by kernel_rfl) O (by kernel_rfl)) (aJ (gQ (cs := jW 0 (.slice none 0 0) (.slice none 0 0)) HL cO O O O O (qF O O)) ?_))
     rintro _ w8 H8
     refine fB O (aT (aB ?_))
     refine oO (.inl O) kG O O bf O (by rw [sZ]; rfl) H8.get.2 ?_
     exact ⟨O, H8.right⟩
end
section
variable {w0 w : World} {F : HP} {p : Nat} {L : List Int} {pt mk : Int} {v : Value} {l : List Int} {i j : Int}
theorem J4 {i j : Nat} (H : V w0 w (iP p L pt mk • F)) (hr : jF w0 F .i32 v l) (hb : i ≤ j ∧ j ≤ L.length) (hl : (L.length : Int) - ((j : Int) - i) + l.length ≤ 1024) :
    iE prog 202 #[.pointer (some ⟨p, 0, none⟩), .int .i64 i, .int .i64 j, v] w fun v' w' => ∃ d s, v' = .tuple #[.agg (jW i d s), .int .i64 0] ∧
      V w0 w' (ku 21 .i32 d ((L.drop i).take (j - i)) • ku 21 .i32 s l • iP p (L.take i ++ l ++ L.drop j) (fE pt i j l.length) (fQ mk i j l.length) • F) := by
  obtain ⟨a, c, rfl, hac, ahk, _⟩ := (hr w H.right).open
  obtain ⟨hL4, hpt, hmk⟩ : L.length ≤ 1024 ∧ (0 ≤ pt ∧ pt ≤ L.length) ∧ (-1 ≤ mk ∧ mk ≤ L.length) := by obtain ⟨a, c, xs, f, t, h1, h2, h3, h4, h5, h6, h7, hc1, hc2, hl, H1⟩ := H.buf; exact ⟨h4, h6, h7⟩
  have hg1 := TS (L := L) (i := i) (r := l.length) (by omega)
  have hg2 := QC (L := L) (i := i) (r := l.length) (by omega)
  have hg3 := QD (L := L) (i := i) (r := l.length) (by omega)
  have hL' : L.take i ++ l ++ L.drop j = (jl (lD L i l.length) i l).take (i + l.length) ++ (jl (lD L i l.length) i l).drop (i + l.length + 16 + (j - i)) := by
    rw [IV (by omega), QB (by omega) (by omega), hg2]
    congr 1
    rw [← List.drop_drop, hg3, List.drop_drop]
    congr 1; omega
  have hlen' : (L.take i ++ l ++ L.drop j).length = L.length - (j - i) + l.length := by simp; omega
  refine Qw func202 ntmps202 ?_
  refine iR (kD (Ac H dQ) ?_)
  rintro _ w1 ⟨b1, rfl, H1⟩
  refine fG O (bQ O (dS O func132 (rQ H1.right) ?_))
  rintro _ w2 ⟨rfl, hD⟩
  have HL := H1.y7 hD
  refine uZ O (aY (bQ O (dS O func131 (sK HL.right) ?_)))
  rintro _ _ ⟨rfl, rfl⟩
  refine fG O (bD O (fun h1 => ?_) (fun h1 => ?_))
  · (try simp only [aA] at h1)
    exfalso; first | contradiction | omega
  · (try simp only [aA] at h1)
    refine bQ O (Z (fZ O O) (jG O (fun h2 => ?_) (fun h2 => ?_)))
    · (try simp only [aA] at h2)
      exfalso; first | contradiction | omega
    · (try simp only [aA] at h2)
      refine bg (bT O (bg (bT O (bg (Z (dY O O) (iH O O (jG O (fun h3 => ?_) (fun h3 => ?_))))))))
      · (try simp only [aA] at h3)
        exfalso; first | contradiction | omega
      · (try simp only [aA] at h3)
        refine bg (bT O (bg (bT O (bg (Z (fZ O O) (iH O O (jG O (fun h4 => ?_) (fun h4 => ?_))))))))
        · (try simp only [aA] at h4)
          exfalso; first | contradiction | omega
        · (try simp only [aA] at h4)
          refine bg (bT O (bg (bT O (bg (Z (dY O O) (iH O O (fG O (TN O (fun h5 => ?_)))))))))
          (try simp only [aA] at h5)
          refine bQ O (Z (jd aj O) (jR O O (bT O (Z (iV O O (by omega)) (Z (iV O O (by omega)) (Z (iV O O (by omega)) (Z (dY O O) (fG O (TN O (fun h6 => ?_))))))))))
          (try simp only [aA] at h6)
          refine cZ (aK (aX (bQ O (bT O (dS O func126 (yK HL.swap) ?_)))))
          rintro u w8 H8
          obtain ⟨au, cu, hu, _⟩ := (H8.aS).form
          subst hu
          refine jR O O (Z (xu aj bZ O O O (by omega)) ?_)
          refine dS O func71 (oK H8 (fun W HW => gJ.cut HW.aS (i := i) (j := j) (by omega) (by omega)) (by simp; omega)) ?_
          rintro d w9 H9
          have HC := H9.swap.right
          obtain ⟨ad, cd, hd, _⟩ := (HC.aS).form
          subst hd
          refine bT O (dS O func71 (oK HC hr.under.under.under (by omega)) ?_)
          rintro s w10 pR
          obtain ⟨ai, ci, hs, _⟩ := (pR.aS).form
          subst hs
          refine Z (mJ (pl := #[(0, 1), (1, 1), (2, 1)]) (jW i (.slice ad ((L.drop i).take (j - i)).length cd) (.slice ai l.length ci)) bf dQ (fun w => by kernel_rfl) O (by kernel_rfl)) (kD (Ac pR dQ) ?_)
          rintro _ Fv ⟨b11, rfl, tq⟩
          refine aJ (gQ (cs := jW i (.slice ad ((L.drop i).take (j - i)).length cd) (.slice ai l.length ci)) tq cO O O O O (qF O O)) ?_
          rintro _ w12 vZ
          refine rG O (jR O O (Z (jd aj O) (dS O func214 (OV vZ.r4 (by omega) (by omega)) ?_)))
          rintro _ Qh ⟨x, wo⟩
          obtain ⟨ax, cx, hx, _⟩ := (wo.swap.aS).form
          subst hx
          refine rG O (dK O (bJ 3 bH O ay O (fM aH O wo.get.2 O (jR O O (Z (iV O O (by omega)) (Z (fJ O O (by omega)) (dK O (bJ 3 bH O ay O (aJ (jP wo ay O O O (by rw [ny]; decide)) ?_)))))))))
          rintro _ OQ AZ
          rw [Fq] at AZ
          have afw := AZ.get.2
          refine qQ ?_
          refine qM (n := 11) [0, 1, 2, 3, 4, 5, 6, 7, 8, 9, 10] (fun W => W.heap[p]? = some (.cells (je (.slice ax (lD L i l.length).length cx) i ((i + l.length + 16 : Nat) + ((j : Int) - i)) pt mk) 197 (0, 0))) (by kernel_rfl) (by kernel_rfl) O ?_
          have hS0 : (fun W => W.heap[p]? = some (.cells (je (.slice ax (lD L i l.length).length cx) i ((i + l.length + 16 : Nat) + ((j : Int) - i)) pt mk) 197 (0, 0))) (OQ.drew) := afw
          have YH := AZ.drew
          refine iQ 0 O hS0 O (jU 1 O hS0 O (gU 2 O hS0 1 bH O dh O (jO 3 O hS0 (fun W hW => jV aj O hW O) (iQ 4 O hS0 O (jU 5 O hS0 O (gU 6 O hS0 2 bH O ay O (jO 7 O hS0 (fun W hW => jV aH O hW O) (jC 8 O hS0 (fun _ => xu aj bZ O O O (by omega)) ?_))))))))
          refine iQ 9 O hS0 O (mZ 10 O (Dq (i := i) (m := l) YH.swap (hr _ YH.right.right.right.right.right.right) aj (by kernel_rfl) O O (by omega)) ?_)
          rintro _ QE ⟨rfl, zU⟩
          have HS := zU.swap
          refine JO (by kernel_rfl) ?_
          refine qV (aX (bQ O (dK O (bJ 2 bH O ay O (fM aH O HS.get.2 O (bT O (Z (jd aj O) (Z (fJ O O (by omega)) (dK O (bJ 2 bH O ay O (aJ (jP HS ay O O O (by rw [ny]; decide)) ?_)))))))))))
          rintro _ w16 vw
          rw [BJ] at vw
          refine qQ (aY (bQ O (dK O (bJ 4 bH O ay O (fM aH O vw.get.2 O (bT O (Z (dY O O) (fG O (bD O (fun h7 => ?_) (fun h7 => ?_))))))))))
          · (try simp only [aA] at h7)
            refine aC (nG O O (bJ 4 bH O ay O (fM aH O vw.get.2 O (bT O (Z (jd aj O) (jR O O (Z (iV O O (by omega)) (Z (iV O O (by omega)) (Z (fJ O O (by omega)) (dK O (bJ 4 bH O ay O (aJ (jP vw ay O O O (by rw [ny]; decide)) ?_))))))))))))
            rintro _ YI Dh
            rw [Ar] at Dh
            refine bW (aK (aX (aN (aY (bQ O (dK O (bJ 5 bH O ay O (fM aH O Dh.get.2 O (bT O (Z (dY O O) (fG O (bD O (fun h8 => ?_) (fun h8 => ?_)))))))))))))
            · (try simp only [aA] at h8)
              refine aC (nG O O (bJ 5 bH O ay O (fM aH O Dh.get.2 O (bT O (Z (jd aj O) (jR O O (Z (iV O O (by omega)) (Z (iV O O (by omega)) (Z (fJ O O (by omega)) (dK O (bJ 5 bH O ay O (aJ (jP Dh ay O O O (by rw [ny]; decide)) ?_))))))))))))
              rintro _ YD EN
              rw [sJ] at EN
              refine bW (aK (aX (aN ?_)))
              have vO := EN.LZ
              refine aC (Z (dM bf O cO O O vO.get.2) (aJ (gQ (cs := jW i (.slice ad ((L.drop i).take (j - i)).length cd) (.slice ai l.length ci)) vO.r6 cO O O O O (qF O O)) ?_))
              rintro _ w19 EF
              refine fB O ?_
              refine oO (.inl O) kG O O bf O (by rw [sZ]; rfl) EF.get.2 ?_
              refine ⟨_, _, O, ?_⟩
              first
                | rw [show fE pt i j l.length = pt + ((l.length : Int) - ((j : Int) - i)) from by unfold fE; rw [if_pos (by omega)]]
                | rw [show fE pt i j l.length = (i : Int) + l.length from by unfold fE; rw [if_neg (by omega), if_pos (by omega)]]
                | rw [show fE pt i j l.length = pt from by unfold fE; rw [if_neg (by omega), if_neg (by omega)]]
              first
                | rw [show fQ mk i j l.length = mk + ((l.length : Int) - ((j : Int) - i)) from by unfold fQ; rw [if_pos (by omega)]]
                | rw [show fQ mk i j l.length = (i : Int) from by unfold fQ; rw [if_neg (by omega), if_pos (by omega)]]
                | rw [show fQ mk i j l.length = mk from by unfold fQ; rw [if_neg (by omega), if_neg (by omega)]]
              refine (V.uM (f := i + l.length) (t := i + l.length + 16 + (j - i)) (v := .slice ax (lD L i l.length).length cx) (xs := jl (lD L i l.length) i l) (by omega) (by rw [fF (by omega)]; omega) hL' (by omega) (by rw [fF (by omega)]; omega) (by omega) (by omega) ?_).d3.swap
              rw [show ((i + l.length : Nat) : Int) = (i : Int) + l.length from by omega, show ((i + l.length + 16 + (j - i) : Nat) : Int) = ((i + l.length + 16 : Nat) : Int) + ((j : Int) - i) from by omega]
              exact EF.right.right
            · (try simp only [aA] at h8)
              refine bQ O (dK O (bJ 5 bH O ay O (fM aH O Dh.get.2 O (bT O (Z (dY O O) (fG O (bD O (fun h9 => ?_) (fun h9 => ?_))))))))
              · (try simp only [aA] at h9)
                refine aC (jR O O (dK O (bJ 5 bH O ay O (aJ (jP Dh ay O O O (by rw [ny]; decide)) ?_))))
                rintro _ w20 F9
                rw [sJ] at F9
                refine bW (aK (aX (aN ?_)))
                have vO := F9.LZ
                refine aC (Z (dM bf O cO O O vO.get.2) (aJ (gQ (cs := jW i (.slice ad ((L.drop i).take (j - i)).length cd) (.slice ai l.length ci)) vO.r6 cO O O O O (qF O O)) ?_))
                rintro _ w21 vO
                refine fB O ?_
                refine oO (.inl O) kG O O bf O (by rw [sZ]; rfl) vO.get.2 ?_
                refine ⟨_, _, O, ?_⟩
                first
                  | rw [show fE pt i j l.length = pt + ((l.length : Int) - ((j : Int) - i)) from by unfold fE; rw [if_pos (by omega)]]
                  | rw [show fE pt i j l.length = (i : Int) + l.length from by unfold fE; rw [if_neg (by omega), if_pos (by omega)]]
                  | rw [show fE pt i j l.length = pt from by unfold fE; rw [if_neg (by omega), if_neg (by omega)]]
                first
                  | rw [show fQ mk i j l.length = mk + ((l.length : Int) - ((j : Int) - i)) from by unfold fQ; rw [if_pos (by omega)]]
                  | rw [show fQ mk i j l.length = (i : Int) from by unfold fQ; rw [if_neg (by omega), if_pos (by omega)]]
                  | rw [show fQ mk i j l.length = mk from by unfold fQ; rw [if_neg (by omega), if_neg (by omega)]]
                refine (V.uM (f := i + l.length) (t := i + l.length + 16 + (j - i)) (v := .slice ax (lD L i l.length).length cx) (xs := jl (lD L i l.length) i l) (by omega) (by rw [fF (by omega)]; omega) hL' (by omega) (by rw [fF (by omega)]; omega) (by omega) (by omega) ?_).d3.swap
                rw [show ((i + l.length : Nat) : Int) = (i : Int) + l.length from by omega, show ((i + l.length + 16 + (j - i) : Nat) : Int) = ((i + l.length + 16 : Nat) : Int) + ((j : Int) - i) from by omega]
                exact vO.right.right
              · (try simp only [aA] at h9)
                refine cZ (aK (aX (aN ?_)))
                have vO := Dh.LZ
                refine aC (Z (dM bf O cO O O vO.get.2) (aJ (gQ (cs := jW i (.slice ad ((L.drop i).take (j - i)).length cd) (.slice ai l.length ci)) vO.r6 cO O O O O (qF O O)) ?_))
                rintro _ w22 Jv
                refine fB O ?_
                refine oO (.inl O) kG O O bf O (by rw [sZ]; rfl) Jv.get.2 ?_
                refine ⟨_, _, O, ?_⟩
                first
                  | rw [show fE pt i j l.length = pt + ((l.length : Int) - ((j : Int) - i)) from by unfold fE; rw [if_pos (by omega)]]
                  | rw [show fE pt i j l.length = (i : Int) + l.length from by unfold fE; rw [if_neg (by omega), if_pos (by omega)]]
                  | rw [show fE pt i j l.length = pt from by unfold fE; rw [if_neg (by omega), if_neg (by omega)]]
                first
                  | rw [show fQ mk i j l.length = mk + ((l.length : Int) - ((j : Int) - i)) from by unfold fQ; rw [if_pos (by omega)]]
                  | rw [show fQ mk i j l.length = (i : Int) from by unfold fQ; rw [if_neg (by omega), if_pos (by omega)]]
                  | rw [show fQ mk i j l.length = mk from by unfold fQ; rw [if_neg (by omega), if_neg (by omega)]]
                refine (V.uM (f := i + l.length) (t := i + l.length + 16 + (j - i)) (v := .slice ax (lD L i l.length).length cx) (xs := jl (lD L i l.length) i l) (by omega) (by rw [fF (by omega)]; omega) hL' (by omega) (by rw [fF (by omega)]; omega) (by omega) (by omega) ?_).d3.swap
                rw [show ((i + l.length : Nat) : Int) = (i : Int) + l.length from by omega, show ((i + l.length + 16 + (j - i) : Nat) : Int) = ((i + l.length + 16 : Nat) : Int) + ((j : Int) - i) from by omega]
                exact Jv.right.right
          · (try simp only [aA] at h7)
            refine bQ O (dK O (bJ 4 bH O ay O (fM aH O vw.get.2 O (bT O (Z (lV O O) (fG O (bD O (fun h10 => ?_) (fun h10 => ?_))))))))
            · (try simp only [aA] at h10)
              refine aC (jR O O (bT O (Z (jd aj O) (Z (fJ O O (by omega)) (dK O (bJ 4 bH O ay O (aJ (jP vw ay O O O (by rw [ny]; decide)) ?_)))))))
              rintro _ w23 CQ
              rw [Ar] at CQ
              refine bW (aK (aX (aN (aY (bQ O (dK O (bJ 5 bH O ay O (fM aH O CQ.get.2 O (bT O (Z (dY O O) (fG O (bD O (fun h11 => ?_) (fun h11 => ?_)))))))))))))
              · (try simp only [aA] at h11)
                refine aC (nG O O (bJ 5 bH O ay O (fM aH O CQ.get.2 O (bT O (Z (jd aj O) (jR O O (Z (iV O O (by omega)) (Z (iV O O (by omega)) (Z (fJ O O (by omega)) (dK O (bJ 5 bH O ay O (aJ (jP CQ ay O O O (by rw [ny]; decide)) ?_))))))))))))
                rintro _ w24 Qy
                rw [sJ] at Qy
                refine bW (aK (aX (aN ?_)))
                have vO := Qy.LZ
                refine aC (Z (dM bf O cO O O vO.get.2) (aJ (gQ (cs := jW i (.slice ad ((L.drop i).take (j - i)).length cd) (.slice ai l.length ci)) vO.r6 cO O O O O (qF O O)) ?_))
                rintro _ w25 TT
                refine fB O ?_
                refine oO (.inl O) kG O O bf O (by rw [sZ]; rfl) TT.get.2 ?_
                refine ⟨_, _, O, ?_⟩
                first
                  | rw [show fE pt i j l.length = pt + ((l.length : Int) - ((j : Int) - i)) from by unfold fE; rw [if_pos (by omega)]]
                  | rw [show fE pt i j l.length = (i : Int) + l.length from by unfold fE; rw [if_neg (by omega), if_pos (by omega)]]
                  | rw [show fE pt i j l.length = pt from by unfold fE; rw [if_neg (by omega), if_neg (by omega)]]
                first
                  | rw [show fQ mk i j l.length = mk + ((l.length : Int) - ((j : Int) - i)) from by unfold fQ; rw [if_pos (by omega)]]
                  | rw [show fQ mk i j l.length = (i : Int) from by unfold fQ; rw [if_neg (by omega), if_pos (by omega)]]
                  | rw [show fQ mk i j l.length = mk from by unfold fQ; rw [if_neg (by omega), if_neg (by omega)]]
                refine (V.uM (f := i + l.length) (t := i + l.length + 16 + (j - i)) (v := .slice ax (lD L i l.length).length cx) (xs := jl (lD L i l.length) i l) (by omega) (by rw [fF (by omega)]; omega) hL' (by omega) (by rw [fF (by omega)]; omega) (by omega) (by omega) ?_).d3.swap
                rw [show ((i + l.length : Nat) : Int) = (i : Int) + l.length from by omega, show ((i + l.length + 16 + (j - i) : Nat) : Int) = ((i + l.length + 16 : Nat) : Int) + ((j : Int) - i) from by omega]
                exact TT.right.right
              · (try simp only [aA] at h11)
                refine bQ O (dK O (bJ 5 bH O ay O (fM aH O CQ.get.2 O (bT O (Z (dY O O) (fG O (bD O (fun h12 => ?_) (fun h12 => ?_))))))))
                · (try simp only [aA] at h12)
                  refine aC (jR O O (dK O (bJ 5 bH O ay O (aJ (jP CQ ay O O O (by rw [ny]; decide)) ?_))))
                  rintro _ w26 VA
                  rw [sJ] at VA
                  refine bW (aK (aX (aN ?_)))
                  have vO := VA.LZ
                  refine aC (Z (dM bf O cO O O vO.get.2) (aJ (gQ (cs := jW i (.slice ad ((L.drop i).take (j - i)).length cd) (.slice ai l.length ci)) vO.r6 cO O O O O (qF O O)) ?_))
                  rintro _ w27 NS
                  refine fB O ?_
                  refine oO (.inl O) kG O O bf O (by rw [sZ]; rfl) NS.get.2 ?_
                  refine ⟨_, _, O, ?_⟩
                  first
                    | rw [show fE pt i j l.length = pt + ((l.length : Int) - ((j : Int) - i)) from by unfold fE; rw [if_pos (by omega)]]
                    | rw [show fE pt i j l.length = (i : Int) + l.length from by unfold fE; rw [if_neg (by omega), if_pos (by omega)]]
                    | rw [show fE pt i j l.length = pt from by unfold fE; rw [if_neg (by omega), if_neg (by omega)]]
                  first
                    | rw [show fQ mk i j l.length = mk + ((l.length : Int) - ((j : Int) - i)) from by unfold fQ; rw [if_pos (by omega)]]
                    | rw [show fQ mk i j l.length = (i : Int) from by unfold fQ; rw [if_neg (by omega), if_pos (by omega)]]
                    | rw [show fQ mk i j l.length = mk from by unfold fQ; rw [if_neg (by omega), if_neg (by omega)]]
                  refine (V.uM (f := i + l.length) (t := i + l.length + 16 + (j - i)) (v := .slice ax (lD L i l.length).length cx) (xs := jl (lD L i l.length) i l) (by omega) (by rw [fF (by omega)]; omega) hL' (by omega) (by rw [fF (by omega)]; omega) (by omega) (by omega) ?_).d3.swap
                  rw [show ((i + l.length : Nat) : Int) = (i : Int) + l.length from by omega, show ((i + l.length + 16 + (j - i) : Nat) : Int) = ((i + l.length + 16 : Nat) : Int) + ((j : Int) - i) from by omega]
                  exact NS.right.right
                · (try simp only [aA] at h12)
                  refine cZ (aK (aX (aN ?_)))
                  have vO := CQ.LZ
                  refine aC (Z (dM bf O cO O O vO.get.2) (aJ (gQ (cs := jW i (.slice ad ((L.drop i).take (j - i)).length cd) (.slice ai l.length ci)) vO.r6 cO O O O O (qF O O)) ?_))
                  rintro _ w28 H28
                  refine fB O ?_
                  refine oO (.inl O) kG O O bf O (by rw [sZ]; rfl) H28.get.2 ?_
                  refine ⟨_, _, O, ?_⟩
                  first
                    | rw [show fE pt i j l.length = pt + ((l.length : Int) - ((j : Int) - i)) from by unfold fE; rw [if_pos (by omega)]]
                    | rw [show fE pt i j l.length = (i : Int) + l.length from by unfold fE; rw [if_neg (by omega), if_pos (by omega)]]
                    | rw [show fE pt i j l.length = pt from by unfold fE; rw [if_neg (by omega), if_neg (by omega)]]
                  first
                    | rw [show fQ mk i j l.length = mk + ((l.length : Int) - ((j : Int) - i)) from by unfold fQ; rw [if_pos (by omega)]]
                    | rw [show fQ mk i j l.length = (i : Int) from by unfold fQ; rw [if_neg (by omega), if_pos (by omega)]]
                    | rw [show fQ mk i j l.length = mk from by unfold fQ; rw [if_neg (by omega), if_neg (by omega)]]
                  refine (V.uM (f := i + l.length) (t := i + l.length + 16 + (j - i)) (v := .slice ax (lD L i l.length).length cx) (xs := jl (lD L i l.length) i l) (by omega) (by rw [fF (by omega)]; omega) hL' (by omega) (by rw [fF (by omega)]; omega) (by omega) (by omega) ?_).d3.swap
                  rw [show ((i + l.length : Nat) : Int) = (i : Int) + l.length from by omega, show ((i + l.length + 16 + (j - i) : Nat) : Int) = ((i + l.length + 16 : Nat) : Int) + ((j : Int) - i) from by omega]
                  exact H28.right.right
            · (try simp only [aA] at h10)
              refine cZ (aK (aX (aN (aY (bQ O (dK O (bJ 5 bH O ay O (fM aH O vw.get.2 O (bT O (Z (dY O O) (fG O (bD O (fun h13 => ?_) (fun h13 => ?_)))))))))))))
              · (try simp only [aA] at h13)
                refine aC (nG O O (bJ 5 bH O ay O (fM aH O vw.get.2 O (bT O (Z (jd aj O) (jR O O (Z (iV O O (by omega)) (Z (iV O O (by omega)) (Z (fJ O O (by omega)) (dK O (bJ 5 bH O ay O (aJ (jP vw ay O O O (by rw [ny]; decide)) ?_))))))))))))
                rintro _ w29 Yi
                rw [sJ] at Yi
                refine bW (aK (aX (aN ?_)))
                have vO := Yi.LZ
                refine aC (Z (dM bf O cO O O vO.get.2) (aJ (gQ (cs := jW i (.slice ad ((L.drop i).take (j - i)).length cd) (.slice ai l.length ci)) vO.r6 cO O O O O (qF O O)) ?_))
                rintro _ w30 VB
                refine fB O ?_
                refine oO (.inl O) kG O O bf O (by rw [sZ]; rfl) VB.get.2 ?_
                refine ⟨_, _, O, ?_⟩
                first
                  | rw [show fE pt i j l.length = pt + ((l.length : Int) - ((j : Int) - i)) from by unfold fE; rw [if_pos (by omega)]]
                  | rw [show fE pt i j l.length = (i : Int) + l.length from by unfold fE; rw [if_neg (by omega), if_pos (by omega)]]
                  | rw [show fE pt i j l.length = pt from by unfold fE; rw [if_neg (by omega), if_neg (by omega)]]
                first
                  | rw [show fQ mk i j l.length = mk + ((l.length : Int) - ((j : Int) - i)) from by unfold fQ; rw [if_pos (by omega)]]
                  | rw [show fQ mk i j l.length = (i : Int) from by unfold fQ; rw [if_neg (by omega), if_pos (by omega)]]
                  | rw [show fQ mk i j l.length = mk from by unfold fQ; rw [if_neg (by omega), if_neg (by omega)]]
                refine (V.uM (f := i + l.length) (t := i + l.length + 16 + (j - i)) (v := .slice ax (lD L i l.length).length cx) (xs := jl (lD L i l.length) i l) (by omega) (by rw [fF (by omega)]; omega) hL' (by omega) (by rw [fF (by omega)]; omega) (by omega) (by omega) ?_).d3.swap
                rw [show ((i + l.length : Nat) : Int) = (i : Int) + l.length from by omega, show ((i + l.length + 16 + (j - i) : Nat) : Int) = ((i + l.length + 16 : Nat) : Int) + ((j : Int) - i) from by omega]
                exact VB.right.right
              · (try simp only [aA] at h13)
                refine bQ O (dK O (bJ 5 bH O ay O (fM aH O vw.get.2 O (bT O (Z (dY O O) (fG O (bD O (fun h14 => ?_) (fun h14 => ?_))))))))
                · (try simp only [aA] at h14)
                  refine aC (jR O O (dK O (bJ 5 bH O ay O (aJ (jP vw ay O O O (by rw [ny]; decide)) ?_))))
                  rintro _ w31 Tn
                  rw [sJ] at Tn
                  refine bW (aK (aX (aN ?_)))
                  have vO := Tn.LZ
                  refine aC (Z (dM bf O cO O O vO.get.2) (aJ (gQ (cs := jW i (.slice ad ((L.drop i).take (j - i)).length cd) (.slice ai l.length ci)) vO.r6 cO O O O O (qF O O)) ?_))
                  rintro _ w32 NT
                  refine fB O ?_
                  refine oO (.inl O) kG O O bf O (by rw [sZ]; rfl) NT.get.2 ?_
                  refine ⟨_, _, O, ?_⟩
                  first
                    | rw [show fE pt i j l.length = pt + ((l.length : Int) - ((j : Int) - i)) from by unfold fE; rw [if_pos (by omega)]]
                    | rw [show fE pt i j l.length = (i : Int) + l.length from by unfold fE; rw [if_neg (by omega), if_pos (by omega)]]
                    | rw [show fE pt i j l.length = pt from by unfold fE; rw [if_neg (by omega), if_neg (by omega)]]
                  first
                    | rw [show fQ mk i j l.length = mk + ((l.length : Int) - ((j : Int) - i)) from by unfold fQ; rw [if_pos (by omega)]]
                    | rw [show fQ mk i j l.length = (i : Int) from by unfold fQ; rw [if_neg (by omega), if_pos (by omega)]]
                    | rw [show fQ mk i j l.length = mk from by unfold fQ; rw [if_neg (by omega), if_neg (by omega)]]
                  refine (V.uM (f := i + l.length) (t := i + l.length + 16 + (j - i)) (v := .slice ax (lD L i l.length).length cx) (xs := jl (lD L i l.length) i l) (by omega) (by rw [fF (by omega)]; omega) hL' (by omega) (by rw [fF (by omega)]; omega) (by omega) (by omega) ?_).d3.swap
                  rw [show ((i + l.length : Nat) : Int) = (i : Int) + l.length from by omega, show ((i + l.length + 16 + (j - i) : Nat) : Int) = ((i + l.length + 16 : Nat) : Int) + ((j : Int) - i) from by omega]
                  exact NT.right.right
                · (try simp only [aA] at h14)
                  refine cZ (aK (aX (aN ?_)))
                  have vO := vw.LZ
                  refine aC (Z (dM bf O cO O O vO.get.2) (aJ (gQ (cs := jW i (.slice ad ((L.drop i).take (j - i)).length cd) (.slice ai l.length ci)) vO.r6 cO O O O O (qF O O)) ?_))
                  rintro _ w33 WV
                  refine fB O ?_
                  refine oO (.inl O) kG O O bf O (by rw [sZ]; rfl) WV.get.2 ?_
                  refine ⟨_, _, O, ?_⟩
                  first
                    | rw [show fE pt i j l.length = pt + ((l.length : Int) - ((j : Int) - i)) from by unfold fE; rw [if_pos (by omega)]]
                    | rw [show fE pt i j l.length = (i : Int) + l.length from by unfold fE; rw [if_neg (by omega), if_pos (by omega)]]
                    | rw [show fE pt i j l.length = pt from by unfold fE; rw [if_neg (by omega), if_neg (by omega)]]
                  first
                    | rw [show fQ mk i j l.length = mk + ((l.length : Int) - ((j : Int) - i)) from by unfold fQ; rw [if_pos (by omega)]]
                    | rw [show fQ mk i j l.length = (i : Int) from by unfold fQ; rw [if_neg (by omega), if_pos (by omega)]]
                    | rw [show fQ mk i j l.length = mk from by unfold fQ; rw [if_neg (by omega), if_neg (by omega)]]
                  refine (V.uM (f := i + l.length) (t := i + l.length + 16 + (j - i)) (v := .slice ax (lD L i l.length).length cx) (xs := jl (lD L i l.length) i l) (by omega) (by rw [fF (by omega)]; omega) hL' (by omega) (by rw [fF (by omega)]; omega) (by omega) (by omega) ?_).d3.swap
                  rw [show ((i + l.length : Nat) : Int) = (i : Int) + l.length from by omega, show ((i + l.length + 16 + (j - i) : Nat) : Int) = ((i + l.length + 16 : Nat) : Int) + ((j : Int) - i) from by omega]
                  exact WV.right.right
end
def Yj (n : Nat) (pt x : Int) : Int := if 0 ≤ x ∧ x ≤ n then x else pt
def mvE (n : Nat) (x : Int) : Int := if 0 ≤ x ∧ x ≤ n then 0 else 70
def wJ (v : Value) (pt mk : Int) : Array Value := #[v, .int .i64 pt, .int .i64 mk]
theorem WW {v : Value} {pt mk : Int} (h : v.oneCell' = true) : ∀ u ∈ (wJ v pt mk).toList, u.oneCell' = true := by
  intro u hu
  simp [wJ] at hu
  rcases hu with rfl | rfl | rfl
  · exact h
  · rfl
  · rfl
section
variable {w0 w : World} {F : HP} {p : Nat} {L : List Int} {pt mk x : Int} {v : Value} {l : List Int}
theorem OW (H : V w0 w (iP p L pt mk • F)) : iE prog 82 #[.pointer (some ⟨p, 0, none⟩), .int .i64 x] w fun v w' => v = .int .i64 (mvE L.length x) ∧ V w0 w' (iP p L (Yj L.length pt x) mk • F) := by
 refine oV func82 ntmps82 ?_
 refine jQ O (aN (aY (bQ O (dS O func131 (sK H) ?_))))
 rintro _ _ ⟨rfl, rfl⟩
 refine fG O (bD O (fun h1 => ?_) (fun h1 => ?_))
 ·(try simp only [aA] at h1)
  exfalso; first | contradiction | omega
 ·(try simp only [aA] at h1)
  refine bQ O (Z (fZ O O) (jG O (fun h2 => ?_) (fun h2 => ?_)))
  ·(try simp only [aA] at h2)
   refine bF (bF (bF (bF (iU O O (fG O (CP (jM O (aT (aB (dL results82 O ?_))))))))))
   exact ⟨by rw [mvE, if_neg (by omega)], by rw [Yj, if_neg (by omega)]; exact H⟩
  ·(try simp only [aA] at h2)
   refine bg (bT O (bg (bT O (bg (dS O func132 (rQ H) ?_)))))
   rintro _ w2 ⟨rfl, hD⟩
   have HL := H.y7 hD
   refine bg (Z (dY O O) (iH O O (fG O (bD O (fun h3 => ?_) (fun h3 => ?_)))))
   ·(try simp only [aA] at h3)
    refine jM O (aT (aB (dL results82 O ?_)))
    exact ⟨by rw [mvE, if_neg (by omega)], by rw [Yj, if_neg (by omega)]; exact HL⟩
   ·(try simp only [aA] at h3)
    refine cZ (aK (aX (aN ?_)))
    obtain ⟨a, c, xs, f, t, h11, h12, h13, h14, h15, h16, h17, hc1, hc2, hl, HB⟩ := HL.buf
    refine aC (jR O O (dK O (bJ 4 bH O ay O (aJ (jP HB ay O O O (by rw [ny]; decide)) ?_))))
    rintro _ w3 H3
    rw [Ar] at H3
    refine iJ (jM O (dL results82 O ?_))
    exact ⟨by rw [mvE, if_pos (by omega)], by rw [Yj, if_pos (by omega)]; exact V.uM h11 h12 h13 h14 h15 (by omega) h17 H3⟩
theorem Gp (H : V w0 w (iP p L pt mk • F)) : iE prog 79 #[.pointer (some ⟨p, 0, none⟩)] w fun v' w' => ∃ u, v' = .agg (wJ u pt mk) ∧ V w0 w' (ku 21 .i32 u L • iP p L pt mk • F) := by
 refine iZ func79 ntmps79 ?_
 refine iR (kD (Ac H zeroValue46) ?_)
 rintro _ w1 ⟨b1, rfl, H1⟩
 refine rG O (dS O func126 (yK H1.swap) ?_)
 rintro u w2 H2
 obtain ⟨au, cu, hu, _⟩ := (H2.aS).form
 subst hu
 refine bT O (dS O func127 (xw H2.swap) ?_)
 rintro _ _ ⟨rfl, rfl⟩
 refine bT O (dS O func128 (OU H2.swap) ?_)
 rintro _ _ ⟨rfl, rfl⟩
 refine Z (mJ (pl := #[(0, 1), (1, 1), (2, 1)]) (wJ (.slice au L.length cu) pt mk) iO zeroValue46 (fun w => by kernel_rfl) O (by kernel_rfl)) (aJ (gQ (cs := wJ (.slice au L.length cu) pt mk) H2.LZ sizeOf46 O O O O (WW O)) ?_)
 rintro _ w5 H5
 refine zkc ?_
 refine aaU (.inl O) results79 O iO O (by rw [YJ]; rfl) H5.get.2 ?_
 exact ⟨_, O, H5.right⟩
end
end Go.Proofs.YtpdeedplgmbopaaGreatDoor
end
section
namespace Go.Proofs.YtpdeedplgmbopaaGreatDoor
open Go.RowKit
def YK (g : Int → Bool) (l : List Int) (at_ : Nat) : Nat := at_ + ((l.drop at_).takeWhile g).length
def YL (g : Int → Bool) (l : List Int) (at_ : Nat) : Nat := at_ - ((l.take at_).reverse.takeWhile g).length
def Gq (n : Nat) (x : Int) : Nat := (min (max x 0) n).toNat
section
variable {w0 w : World} {F G : HP} {v fv : Value} {l : List Int} {g : Int → Bool}
def aef (l : List Int) (x : Int) : Nat := YK eG l (YK (fun r => !eG r) l (Gq l.length x))
def acQ (l : List Int) (x : Int) : Nat := YL eG l (YL (fun r => !eG r) l (Gq l.length x))
def VD (r : Int) : Bool := decide (Dt r ≠ 0) || lF r
def agZ (l : List Int) (x : Int) : Nat := if Gq l.length x < l.length then YK (fun r => !VD r) l (Gq l.length x + 1) else l.length
def ag0 (l : List Int) (x : Int) : Nat := YL (fun r => !VD r) l (Gq l.length x) - 1
end
section
variable {w0 w : World} {F : HP} {p : Nat} {L : List Int} {pt mk : Int} {v : Value} {l : List Int}
end

section
variable {w0 w : World} {F : HP} {p : Nat} {L : List Int} {pt mk a : Int} {d i : Value} {dl il : List Int}
end
end Go.Proofs.YtpdeedplgmbopaaGreatDoor
end
section
namespace Go.Proofs.YtpdeedplgmbopaaGreatDoor
open Go.RowKit
open _root_.Go.Proofs.Tryz
def nO (L : List Int) (i j : Int) (l : List Int) : Int := if i < 0 ∨ L.length < i ∨ j < i ∨ L.length < j then 70 else if 1024 < L.length - (j - i) + l.length then 3 else 0
def qX (L : List Int) (i j : Int) (l : List Int) : List Int := if nO L i j l = 0 then L.take i.toNat ++ l ++ L.drop j.toNat else L
def qY (L : List Int) (pt i j : Int) (l : List Int) : Int := if nO L i j l = 0 then fE pt i j l.length else pt
def vP (L : List Int) (mk i j : Int) (l : List Int) : Int := if nO L i j l = 0 then fQ mk i j l.length else mk
def wC (L : List Int) (i j : Int) (l : List Int) : Int := if nO L i j l = 0 then i else 0
def qy (L : List Int) (i j : Int) (l : List Int) : List Int := if nO L i j l = 0 then (L.drop i.toNat).take (j - i).toNat else []
def qB (L : List Int) (i j : Int) (l : List Int) : List Int := if nO L i j l = 0 then l else []
section
variable {w0 w : World} {F : HP} {p : Nat} {L : List Int} {pt mk : Int} {v d s : Value} {l dl il : List Int} {i j a x : Int}
theorem Ji (H : V w0 w (iP p L pt mk • F)) (hr : jF w0 F .i32 v l) :
    iE prog 202 #[.pointer (some ⟨p, 0, none⟩), .int .i64 i, .int .i64 j, v] w fun v' w' => ∃ d s, v' = .tuple #[.agg #[.int .i64 (wC L i j l), d, s], .int .i64 (nO L i j l)] ∧
      V w0 w' (ku 21 .i32 d (qy L i j l) • ku 21 .i32 s (qB L i j l) • iP p (qX L i j l) (qY L pt i j l) (vP L mk i j l) • F) := by
  unfold wC qX qY vP qy qB
  by_cases h1 : i < 0 ∨ L.length < i ∨ j < i ∨ L.length < j
  · have e : nO L i j l = 70 := by unfold nO; rw [if_pos h1]
    simp only [e, show ¬ (70 : Int) = 0 from by decide, if_false]
    exact (Jh H hr h1).mono fun v' w' h => ⟨_, _, h.1, (h.2.Gm none).Gm none⟩
  · have h2 : 0 ≤ i ∧ i ≤ j ∧ j ≤ L.length := by omega
    by_cases h3 : 1024 < L.length - (j - i) + l.length
    · have e : nO L i j l = 3 := by unfold nO; rw [if_neg h1, if_pos h3]
      simp only [e, show ¬ (3 : Int) = 0 from by decide, if_false]
      exact (Hz H hr h2 h3).mono fun v' w' h => ⟨_, _, h.1, (h.2.Gm none).Gm none⟩
    · have e : nO L i j l = 0 := by unfold nO; rw [if_neg h1, if_neg h3]
      simp only [e, if_true]
      obtain ⟨i', rfl⟩ := Int.eq_ofNat_of_zero_le h2.1
      obtain ⟨j', rfl⟩ := Int.eq_ofNat_of_zero_le (show 0 ≤ j by omega)
      have hij : i' ≤ j' ∧ j' ≤ L.length := by omega
      have := J4 (i := i') (j := j') H hr hij (by omega)
      simpa only [Int.toNat_natCast, show ((j' : Int) - (i' : Int)).toNat = j' - i' from by omega, jW] using this
def smE (L : List Int) (x : Int) : Int := if x < -1 ∨ L.length < x then 70 else 0
def smM (L : List Int) (mk x : Int) : Int := if x < -1 ∨ L.length < x then mk else x
theorem Jj (H : V w0 w (iP p L pt mk • F)) : iE prog 207 #[.pointer (some ⟨p, 0, none⟩), .int .i64 x] w fun v' w' => v' = .int .i64 (smE L x) ∧ V w0 w' (iP p L pt (smM L mk x) • F) := by
 unfold smE smM
 have hL : L.length ≤ 1024 := by obtain ⟨a, c, xs, f, t, h1, h2, h3, h4, h5, h6, h7, hc1, hc2, hl, H1⟩ := H.buf; exact h4
 refine oV func207 ntmps207 ?_
 refine jQ O (aN (aY (bQ O (dS O func131 (sK H) ?_))))
 rintro _ _ ⟨rfl, rfl⟩
 refine fG O (qo (bQ O (Z (fZ O O) (jG O (fun h1 => ?_) (fun h1 => ?_)))))
 ·(try simp only [aA] at h1)
  try (exfalso; first | contradiction | omega)
  all_goals
   refine bF (bF (bF (bF (iU O O (fG O (CP (jM O (aT (aB (dL results207 O ?_))))))))))
   exact ⟨by rw [if_pos (by omega)], by rw [if_pos (by omega)]; exact H⟩
 ·(try simp only [aA] at h1)
  try (exfalso; first | contradiction | omega)
  all_goals
   refine bg (bT O (bg (bT O (bg (dS O func132 (rQ H) ?_)))))
   rintro _ w2 ⟨rfl, hD2⟩
   have HD2 := H.y7 hD2
   refine bg (Z (dY O O) (iH O O (fG O (bD O (fun h2 => ?_) (fun h2 => ?_)))))
   ·(try simp only [aA] at h2)
    try (exfalso; first | contradiction | omega)
    all_goals
     refine jM O (aT (aB (dL results207 O ?_)))
     exact ⟨by rw [if_pos (by omega)], by rw [if_pos (by omega)]; exact HD2⟩
   ·(try simp only [aA] at h2)
    try (exfalso; first | contradiction | omega)
    all_goals
     refine cZ (aK (aX (aN ?_)))
     obtain ⟨afx, afy, afz, f_p, t_p, aa0, aa1, aa2, aa3, aa4, aa5, afA, afB, afC, aeg, aa6⟩ := (HD2).buf
     refine aC (jR O O (dK O (bJ 5 bH O ay O (aJ (fP 5 (l' := [_, _, _, _, _, _]) aa6 ay O O (by first | rfl | assumption) O O) ?_))))
     rintro _ w4 H4
     refine iJ (jM O (dL results207 O ?_))
     exact ⟨by rw [if_neg (by omega)], by rw [if_neg (by omega)]; exact V.uM aa0 aa1 aa2 aa3 aa4 aa5 (by omega) H4.f2.f2⟩
def swE (mk : Int) : Int := if mk < 0 then 6 else 0
def swP (pt mk : Int) : Int := if mk < 0 then pt else mk
def swM (pt mk : Int) : Int := if mk < 0 then mk else pt
theorem Md (H : V w0 w (iP p L pt mk • F)) : iE prog 129 #[.pointer (some ⟨p, 0, none⟩)] w fun v' w' => ∃ q, v' = .pointer (some ⟨q, 0, none⟩) ∧ V w0 w' (iP q L pt mk • iP p L pt mk • F) := by
 refine iZ func129 ntmps129 ?_
 refine jQ O (aN (bQ O (dS O func131 (sK H) ?_)))
 rintro _ _ ⟨rfl, rfl⟩
 refine iJ (qo (gG (aN ?_)))
 obtain ⟨afx, afy, afz, f_p, t_p, aa0, aa1, aa2, aa3, aa4, aa5, afA, afB, afC, aeg, aa6⟩ := (H).buf
 refine aC (nG O O (Z (dM bH O sizeOf197 O O (aa6).get.2) (kD (iC (l := [_, _, _, _, _, _]) aa6 zeroValue197 O) ?_)))
 rintro _ w3 ⟨b3, rfl, H3⟩
 refine aJ (dB 0 (l' := [_, _, _, _, _, _]) (us := [_, _, _, _, _, _]) H3 sizeOf197 O O O (aG (aZ (by first | rfl | exact Rd.one ((H3.f3).aS)) (aG (aG (aG (aG bU)))))) O O) ?_
 rintro _ w4 H4
 refine rG O (dK O (bJ 1 bH O dh O (fM aj O (H4.f2).get.2 O (dS O func71 (oK H4 (fun W HW => (HW.f3).aS) (by omega)) ?_))))
 rintro u5 w5 H5
 refine bJ 1 bH O dh O (aJ (fP 1 (l' := [_, _, _, _, _, _]) H5.f2 dh O O (by first | rfl | exact Rd.one ((H5).aS)) O O) ?_)
 rintro _ w6 H6
 refine iJ (jM O (dL results129 O ?_))
 exact ⟨_, O, (V.uM aa0 aa1 aa2 aa3 aa4 aa5 (by omega) (V.uM aa0 aa1 aa2 aa3 aa4 aa5 (by omega) H6.f4.f4.f4.f4).f2.f3.f2).f2⟩
def aeh (L : List Int) (a : Int) (dl : List Int) : Bool := decide ((dl.length : Int) ≤ L.length - a) && ((L.drop a.toNat).take dl.length == dl)
def acR (L : List Int) (a : Int) (dl il : List Int) : Int := if a < 0 ∨ L.length < a then 70 else if aeh L a dl then nO L a (a + dl.length) il else 71
def afD (L : List Int) (a : Int) (dl il : List Int) : List Int := if acR L a dl il = 0 then qX L a (a + dl.length) il else L
def afE (L : List Int) (pt a : Int) (dl il : List Int) : Int := if acR L a dl il = 0 then qY L pt a (a + dl.length) il else pt
def afF (L : List Int) (mk a : Int) (dl il : List Int) : Int := if acR L a dl il = 0 then vP L mk a (a + dl.length) il else mk
end
end Go.Proofs.YtpdeedplgmbopaaGreatDoor
end
