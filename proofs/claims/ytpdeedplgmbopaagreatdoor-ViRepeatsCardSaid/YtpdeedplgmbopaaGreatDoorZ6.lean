import Derived.Test.YtpdeedplgmbopaaGreatDoorZ4
import Derived.Test.YtpdeedplgmbopaaGreatDoorZ5
import Derived.Test.YtpdeedplgmbopaaGreatDoorZ3
set_option linter.unusedSimpArgs false
set_option linter.unusedVariables false
/- Texts of mine, joined, their names in short: Buf Buf2 Buf3 LineP Move BLive Same Apply BufP. -/
section
namespace Go.Proofs.YtpdeedplgmbopaaGreatDoor
open Go.RowKit
open _root_.Go.Proofs.Tryz
theorem SX {s i j : Nat} {v : Value} (h : v.oneCell' = true) : (sV s i j v).oneCell' = true := by cases v <;> simp_all [sV, Value.oneCell']
def jJ (v : Value) (f t pt mk : Int) : Array Value := #[.bool true, v, .int .i64 f, .int .i64 t, .int .i64 pt, .int .i64 mk]
theorem acP {a b : Value} (h : a.oneCell' = true) (k : b.oneCell' = true) : ∀ u ∈ [a, b], u.oneCell' = true := by
  intro u hu; simp at hu; rcases hu with rfl | rfl
  · exact h
  · exact k
section
variable {v u : Value} {f t pt mk x : Int}
theorem oC : (jJ v f t pt mk).size = 6 := rfl
theorem YU : (jJ v f t pt mk).setIfInBounds 1 u = jJ u f t pt mk := rfl
theorem Dc : (jJ v f t pt mk).setIfInBounds 2 (.int .i64 x) = jJ v x t pt mk := rfl
theorem Gs : (jJ v f t pt mk).setIfInBounds 3 (.int .i64 x) = jJ v f x pt mk := rfl
theorem BJ : (jJ v f t pt mk).setIfInBounds 4 (.int .i64 x) = jJ v f t x mk := rfl
theorem uj : (jJ v f t pt mk).setIfInBounds 5 (.int .i64 x) = jJ v f t pt x := rfl
end
def jB (p : Nat) (L : List Int) (pt mk : Int) : HP := xQ fun (x : Value × List Int × Nat × Nat) =>
  fact (x.2.2.1 ≤ x.2.2.2 ∧ x.2.2.2 ≤ x.2.1.length ∧ L = x.2.1.take x.2.2.1 ++ x.2.1.drop x.2.2.2 ∧ L.length ≤ 1024 ∧ x.2.1.length ≤ 4096 ∧ (0 ≤ pt ∧ pt ≤ L.length) ∧ (-1 ≤ mk ∧ mk ≤ L.length)) •
    eP p (.cells (jJ x.1 x.2.2.1 x.2.2.2 pt mk) 197 (0, 0)) • jw 21 .i32 x.1 x.2.1
section
variable {w0 w : World} {F : HP} {p : Nat} {L : List Int} {pt mk : Int}
theorem V.buf (H : V w0 w (jB p L pt mk • F)) : ∃ (a : Option Addr) (c : Nat) (xs : List Int) (f t : Nat), f ≤ t ∧ t ≤ xs.length ∧ L = xs.take f ++ xs.drop t ∧ L.length ≤ 1024 ∧ xs.length ≤ 4096 ∧ (0 ≤ pt ∧ pt ≤ L.length) ∧ (-1 ≤ mk ∧ mk ≤ L.length) ∧ xs.length ≤ c ∧ (c : Int) ≤ 9223372036854775807 ∧ L.length + t = xs.length + f ∧
    V w0 w (eP p (.cells (jJ (.slice a xs.length c) f t pt mk) 197 (0, 0)) • jw 21 .i32 (.slice a xs.length c) xs • F) := by
  obtain ⟨⟨v, xs, f, t⟩, H⟩ := H.oN
  obtain ⟨⟨h1, h2, h3, h4, h5, h6, h7⟩, H⟩ := H.flat.fact
  have H := H.flat
  obtain ⟨a, c, hv, hc1, hc2, _⟩ := (H.swap.aP).form
  dsimp only at *
  subst hv
  refine ⟨a, c, xs, f, t, h1, h2, h3, h4, h5, h6, h7, hc1, hc2, ?_, H⟩
  rw [h3]; simp; omega
theorem V.wV {v : Value} {xs : List Int} {f t : Nat} (h1 : f ≤ t) (h2 : t ≤ xs.length) (h3 : L = xs.take f ++ xs.drop t) (h4 : L.length ≤ 1024) (h5 : xs.length ≤ 4096) (h6 : 0 ≤ pt ∧ pt ≤ L.length) (h7 : -1 ≤ mk ∧ mk ≤ L.length)
    (H : V w0 w (eP p (.cells (jJ v f t pt mk) 197 (0, 0)) • jw 21 .i32 v xs • F)) : V w0 w (jB p L pt mk • F) :=
  V.jV (v, xs, f, t) (V.deep (V.mW ⟨h1, h2, h3, h4, h5, h6, h7⟩ (V.deep H)))
theorem wW (t : TypeId) {cs : Array Value} {fr : Nat × Nat} {m : Bool} (hb : w.heap[p]? = some (.cells cs t fr)) (h0 : cs[0]? = some (.bool m)) :
    iQ prog 131 #[.pointer (some ⟨p, 0, none⟩)] w fun v w' => v = .bool (!m) ∧ w = w' := by
  refine ji func131 ntmps131 ?_
  refine ku O (bM O (aQ (iJ mZ O O) (JG O (fun h1 => ?_))))
  (try simp only [Z] at h1)
  refine aY (bJ O (aY (dK O (aY (bI 0 bP O aS O (aY (fC cZ O hb h0 (aY (aQ (kG O) (fG O O (fA O (dI results131 O ?_))))))))))))
  exact ⟨O, O⟩
theorem vO (H : V w0 w (jB p L pt mk • F)) : iQ prog 132 #[.pointer (some ⟨p, 0, none⟩)] w fun v w' => v = .int .i64 L.length ∧ Ba w w' := by
 obtain ⟨a, c, xs, f, t, h1, h2, h3, h4, h5, h6, h7, hc1, hc2, hl, H1⟩ := H.buf
 have hb := H1.get.2
 refine ji func132 ntmps132 ?_
 refine ku O (aI (bM O (dS O func131 (wW _ hb O) ?_)))
 rintro _ _ ⟨rfl, rfl⟩
 refine iE (oh (fV (aI ?_)))
 refine rV (n := 16) [0, 1, 2, 3, 4, 5, 6, 7, 8, 9, 10, 11, 12, 13, 14, 15] (fun W => W.heap = w.heap) (by kernel_rfl) (by kernel_rfl) O ?_
 have hS0 : (fun W => W.heap = w.heap) (w.drew) := rfl
 have H3d := H1.drew
 refine gX 0 O hS0 O (jE 1 O hS0 O (gy 2 O hS0 1 bP O bV O ?_))
 refine jf 3 O hS0 (fun W hW => jv ah O (by rw [hW]; exact hb) O) ?_
 refine iI 4 O hS0 (fun _ => jH ah O) (gX 5 O hS0 O (jE 6 O hS0 O (gy 7 O hS0 3 bP O ay O ?_)))
 refine jf 8 O hS0 (fun W hW => jv aC O (by rw [hW]; exact hb) O) ?_
 refine gX 9 O hS0 O (jE 10 O hS0 O (gy 11 O hS0 2 bP O ay O ?_))
 refine jf 12 O hS0 (fun W hW => jv aC O (by rw [hW]; exact hb) O) ?_
 refine iI 13 O hS0 (fun _ => jk O O (by omega)) (iI 14 O hS0 (fun _ => jk O O (by omega)) (iI 15 O hS0 (fun _ => dB O) (pq (aX (lQ (dI results132 O ?_))))))
 exact ⟨by congr 1; omega, Ba.refl _ |>.drew⟩
theorem Ot (H : V w0 w (jB p L pt mk • F)) : iQ prog 127 #[.pointer (some ⟨p, 0, none⟩)] w fun v w' => v = .int .i64 pt ∧ w = w' := by
  obtain ⟨a, c, xs, f, t, h1, h2, h3, h4, h5, h6, h7, hc1, hc2, hl, H1⟩ := H.buf
  have hb := H1.get.2
  refine ji func127 ntmps127 ?_
  refine ku O (aI (bM O (dS O func131 (wW _ hb O) ?_)))
  rintro _ _ ⟨rfl, rfl⟩
  refine iE (oh (fV (bM O (dK O (bI 4 bP O ay O (fC aC O hb O (fA O (dI results127 O ?_))))))))
  exact ⟨O, O⟩
theorem QG (H : V w0 w (jB p L pt mk • F)) : iQ prog 128 #[.pointer (some ⟨p, 0, none⟩)] w fun v w' => v = .int .i64 mk ∧ w = w' := by
  obtain ⟨a, c, xs, f, t, h1, h2, h3, h4, h5, h6, h7, hc1, hc2, hl, H1⟩ := H.buf
  have hb := H1.get.2
  refine ji func128 ntmps128 ?_
  refine ku O (aI (bM O (dS O func131 (wW _ hb O) ?_)))
  rintro _ _ ⟨rfl, rfl⟩
  refine iE (oh (fV (bM O (dK O (bI 5 bP O ay O (fC aC O hb O (fA O (dI results128 O ?_))))))))
  exact ⟨O, O⟩
theorem zo (H : V w0 w (jB p L pt mk • F)) : iQ prog 126 #[.pointer (some ⟨p, 0, none⟩)] w fun v w' => V w0 w' (jw 21 .i32 v L • jB p L pt mk • F) := by
 obtain ⟨a, c, xs, f, t, h1, h2, h3, h4, h5, h6, h7, hc1, hc2, hl, H1⟩ := H.buf
 have hb := H1.get.2
 refine ji func126 ntmps126 ?_
 refine ku O (aI (bM O (dS O func131 (wW _ hb O) ?_)))
 rintro _ _ ⟨rfl, rfl⟩
 refine iE (oh (fV (aI ?_)))
 refine rV (n := 21) [0, 1, 2, 3, 4, 5, 6, 7, 8, 9, 10, 11, 12, 13, 14, 15, 16, 17, 18, 19, 20] (fun W => W.heap[p]? = some (.cells (jJ (.slice a xs.length c) f t pt mk) 197 (0, 0))) (by kernel_rfl) (by kernel_rfl) O ?_
 have hS0 : (fun W => W.heap[p]? = some (.cells (jJ (.slice a xs.length c) f t pt mk) 197 (0, 0))) (w.drew) := hb
 have H3d := H1.drew
 refine gX 0 O hS0 O (jE 1 O hS0 O (gy 2 O hS0 1 bP O bV O (jf 3 O hS0 (fun W hW => jv ah O hW O) (gX 4 O hS0 O (jE 5 O hS0 O (gy 6 O hS0 2 bP O ay O (jf 7 O hS0 (fun W hW => jv aC O hW O) (iI 8 O hS0 (fun _ => yx ah bK O O O (by omega)) ?_))))))))
 refine gX 9 O hS0 O (jE 10 O hS0 O (gy 11 O hS0 1 bP O bV O (jf 12 O hS0 (fun W hW => jv ah O hW O) (gX 13 O hS0 O (jE 14 O hS0 O (gy 15 O hS0 3 bP O ay O (jf 16 O hS0 (fun W hW => jv aC O hW O) (iI 17 O hS0 (fun _ => yx ah bK O O O (by omega)) ?_))))))))
 refine mQ 18 O (XG (vs := [sV 1 0 f (.slice a xs.length c), sV 1 t xs.length (.slice a xs.length c)]) H3d jy bV zeroValue22 O O O (by decide) (acP (SX O) (SX O))) ?_
 rintro _ w2 ⟨b2, rfl, H2⟩
 have hS2 : (fun W => W.heap[p]? = some (.cells (jJ (.slice a xs.length c) f t pt mk) 197 (0, 0))) w2 := H2.swap.get.2
 refine Hf hS2 ?_
 refine mQ 19 O (wR O func172 (Ee (l1 := xs.take f) (l2 := xs.drop t) H2 (fun W HW => fJ.upto HW.Og.aP (by omega)) (fun W HW => fJ.from HW.Og.aP (by omega)) (by simp; omega))) ?_
 rintro u w3 H3
 have hS3 : (fun W => W.heap[p]? = some (.cells (jJ (.slice a xs.length c) f t pt mk) 197 (0, 0))) w3 := H3.Og.get.2
 refine Hf hS3 ?_
 refine iI 20 O hS3 (fun _ => dB O) (pq (aX (lQ (dI results126 O ?_))))
 rw [← h3] at H3
 exact (V.wV h1 h2 h3 h4 h5 h6 h7 H3.swap.right.d3).swap
theorem SY {v : Value} {l : List Int} (H : V w0 w F) (hr : jh w0 F .i32 v l) (hl : l.length ≤ 1024) : iQ prog 151 #[v] w fun v' w' => ∃ p, v' = .tuple #[.pointer (some ⟨p, 0, none⟩), .int .i64 0] ∧ V w0 w' (jB p l l.length (-1) • F) := by
 obtain ⟨a, c, rfl, _, _, _⟩ := (hr w H).open
 refine ji func151 ntmps151 ?_
 refine iy (gU O (uf O (bM O (aQ (jH ah O) (aQ (eX O O) (iE (VH O (fun h1 => ?_))))))))
 (try simp only [Z] at h1)
 refine fV (bM O (dS O func71 (oL H hr (by omega)) ?_))
 rintro u w1 H1
 obtain ⟨au, cu, hu, _⟩ := (H1.aP).form
 subst hu
 refine bJ O (aQ (jH ah O) (aQ (nP (pl := #[(0, 1), (1, 1), (2, 1), (3, 1), (4, 1), (5, 1)]) (jJ (.slice au l.length cu) 0 0 l.length (-1)) bP zeroValue197 (fun w => by kernel_rfl) O (by kernel_rfl)) (kF (XF H1 O) ?_)))
 rintro _ w2 ⟨b2, rfl, H2⟩
 refine uf O ?_
 have HB : V w0 w2 (eP b2 (.cells (jJ (.slice au l.length cu) 0 0 l.length (-1)) 197 (0, 0)) • jw 21 .i32 (.slice au l.length cu) l • F) := H2
 refine aB (jX O O (bJ O (aQ (jH ah O) (bJ O (aQ (jH ah O) (dK O (bI 2 bP O ay O (aJ (kH HB ay O O O (by rw [oC]; decide)) ?_))))))))
 rintro _ w3 HB1
 rw [Dc] at HB1
 refine dK O (bI 3 bP O ay O (aJ (kH HB1 ay O O O (by rw [oC]; decide)) ?_))
 rintro _ w4 HB2
 rw [Gs] at HB2
 refine sG O (gU O (fA O (KP results151 O O ?_)))
 exact ⟨_, O, V.wV (f := l.length) (t := l.length) (Nat.le_refl _) (Nat.le_refl _) (by simp) hl (by omega) (by omega) (by omega) HB2⟩
end
def lZ (L : List Int) (i r : Nat) : List Int := iq (iq (List.replicate (L.length + r + 16) 0) 0 (L.take i)) (i + r + 16) (L.drop i)
theorem VL {L : List Int} {i r : Nat} (h : i ≤ L.length) : (lZ L i r).length = L.length + r + 16 := by
  unfold lZ
  rw [fE, fE] <;> simp [fE] <;> first | omega | (rw [fE] <;> simp <;> omega)
theorem JL {l ys : List Int} {i : Nat} (h : i + ys.length ≤ l.length) : (iq l i ys).take (i + ys.length) = l.take i ++ ys := by
  unfold iq
  rw [List.take_append_of_le_length (by simp; omega), List.take_of_length_le (by simp; omega)]
theorem S9 {l ys : List Int} {i j : Nat} (h : i + ys.length ≤ j) (h2 : j ≤ l.length) : (iq l i ys).drop j = l.drop j := by
  unfold iq
  rw [List.drop_append, List.drop_eq_nil_of_le (by simp; omega), List.nil_append, List.drop_drop]
  congr 1
  simp
  omega
theorem LQ {l ys : List Int} {i j : Nat} (h : j ≤ i) (h2 : i ≤ l.length) : (iq l i ys).take j = l.take j := by
  unfold iq
  rw [List.append_assoc, List.take_append_of_le_length (by simp; omega), List.take_take, Nat.min_eq_left h]
theorem LU {l ys : List Int} {i : Nat} (h : i + ys.length = l.length) : (iq l i ys).drop i = ys := by
  unfold iq
  rw [List.append_assoc, List.drop_append, List.drop_eq_nil_of_le (by simp; omega), List.nil_append]
  simp [show i - min i l.length = 0 from by omega, show l.length ≤ i + ys.length from by omega]
theorem Tc {L : List Int} {i r : Nat} (h : i ≤ L.length) : (lZ L i r).take i = L.take i := by
  have h1 : (iq (List.replicate (L.length + r + 16) (0 : Int)) 0 (L.take i)).length = L.length + r + 16 := by rw [fE] <;> simp; omega
  unfold lZ
  rw [LQ (by omega) (by rw [h1]; omega)]
  have := JL (l := List.replicate (L.length + r + 16) (0 : Int)) (ys := L.take i) (i := 0) (by simp; omega)
  rw [show 0 + (L.take i).length = i from by simp; omega] at this
  simpa using this
theorem Td {L : List Int} {i r : Nat} (h : i ≤ L.length) : (lZ L i r).drop (i + r + 16) = L.drop i := by
  have h1 : (iq (List.replicate (L.length + r + 16) (0 : Int)) 0 (L.take i)).length = L.length + r + 16 := by rw [fE] <;> simp; omega
  exact LU (by rw [h1]; simp; omega)
section
variable {w0 w : World} {F : HP} {p : Nat} {L : List Int} {pt mk : Int}
theorem QH {i r : Nat} (H : V w0 w (jB p L pt mk • F)) (hi : i ≤ L.length) (hr : r ≤ 1024) :
  iQ prog 214 #[.pointer (some ⟨p, 0, none⟩), .int .i64 i, .int .i64 r] w fun _ w' => ∃ v, V w0 w' (eP p (.cells (jJ v i (i + r + 16 : Nat) pt mk) 197 (0, 0)) • jw 21 .i32 v (lZ L i r) • F) := by
 have hL4 : L.length ≤ 1024 := by obtain ⟨a, c, xs, f, t, h1, h2, h3, h4, h5, h6, h7, hc1, hc2, hl, H1⟩ := H.buf; exact h4
 have e1 : ((L.length : Int) + r + 16).toNat = L.length + r + 16 := by omega
 refine zk func214 ntmps214 ?_
 refine bM O (dS O func126 (zo H) ?_)
 rintro u w1 H1
 obtain ⟨au, cu, hu, hcu, ajF, _⟩ := (H1.aP).form
 subst hu
 obtain ⟨a, c, xs, f, t, h1, h2, h3, h4, h5, h6, h7, hc1, hc2, hl, HB⟩ := H1.swap.buf
 refine dZ O (bM O (bJ O (aQ (jH ah O) (bJ O (aQ (fQ O O (by omega)) (aQ (fQ O O (by omega)) (kF (JE HB ah Ed O O (by omega) (by omega) (by omega)) ?_)))))))
 rintro v w2 H2
 rw [e1] at H2
 have hm : (List.replicate (L.length + r + 16) (0 : Int)).length = L.length + r + 16 := by simp
 obtain ⟨av, cv, hv, hcv, hcv2, _⟩ := (H2.aP).form
 rw [hm] at hv hcv
 subst hv
 refine dK O (bI 1 bP O bV O (aJ (kH H2.swap bV O O O (by rw [oC]; decide)) ?_))
 rintro _ w3 H3
 rw [YU] at H3
 refine sG O (oq O O (bI 2 bP O ay O (aJ (kH H3 ay O O O (by rw [oC]; decide)) ?_)))
 rintro _ w4 H4
 rw [Dc] at H4
 refine sG O (oq O O (bI 1 bP O bV O (fC ah O H4.get.2 O (aQ (jH ah O) (bJ O (aQ (jH ah O) (bJ O (aQ (jk O O (by omega)) (aQ (jk O O (by omega)) (dK O (bI 3 bP O ay O (aJ (kH H4 ay O O O (by rw [oC]; decide)) ?_))))))))))))
 rintro _ w5 H5
 rw [Gs, show (((L.length + r + 16 : Nat) : Int) - ((L.length : Int) - (i : Int))) = ((i + r + 16 : Nat) : Int) from by omega] at H5
 have hb3 := H5.get.2
 refine rP ?_
 refine rV (n := 8) [0, 1, 2, 3, 4, 5, 6, 7] (fun W => W.heap[p]? = some (.cells (jJ (.slice av (L.length + r + 16) cv) i (i + r + 16 : Nat) pt mk) 197 (0, 0))) (by kernel_rfl) (by kernel_rfl) O ?_
 have hS0 : (fun W => W.heap[p]? = some (.cells (jJ (.slice av (L.length + r + 16) cv) i (i + r + 16 : Nat) pt mk) 197 (0, 0))) (w5.drew) := hb3
 have H4d := H5.drew
 refine gX 0 O hS0 O (jE 1 O hS0 O (gy 2 O hS0 1 bP O bV O (jf 3 O hS0 (fun W hW => jv ah O hW O) (gX 4 O hS0 O (gX 5 O hS0 O (iI 6 O hS0 (fun _ => yx ah bK O O O (by omega)) ?_))))))
 refine mQ 7 O (Eb (i := 0) (m := L.take i) H4d.swap (fJ.upto H4d.r4.aP (by omega)) ah (by kernel_rfl) (by rw [hm, LJ]; rfl) O (by simp; omega)) ?_
 rintro _ w6 ⟨rfl, H6⟩
 have hm2 : (iq (List.replicate (L.length + r + 16) (0 : Int)) 0 (L.take i)).length = L.length + r + 16 := by rw [fE] <;> simp; omega
 refine LG (by kernel_rfl) ?_
 refine pq (aX ?_)
 refine rV (n := 13) [0, 1, 2, 3, 4, 5, 6, 7, 8, 9, 10, 11, 12] (fun W => W.heap[p]? = some (.cells (jJ (.slice av (L.length + r + 16) cv) i (i + r + 16 : Nat) pt mk) 197 (0, 0))) (by kernel_rfl) (by kernel_rfl) O ?_
 have hS0 : (fun W => W.heap[p]? = some (.cells (jJ (.slice av (L.length + r + 16) cv) i (i + r + 16 : Nat) pt mk) 197 (0, 0))) (w6.drew) := H6.swap.get.2
 have H5d := H6.drew
 refine gX 0 O hS0 O (jE 1 O hS0 O (gy 2 O hS0 1 bP O bV O (jf 3 O hS0 (fun W hW => jv ah O hW O) (gX 4 O hS0 O (jE 5 O hS0 O (gy 6 O hS0 3 bP O ay O (jf 7 O hS0 (fun W hW => jv aC O hW O) (iI 8 O hS0 (fun _ => yx ah bK O O O (by omega)) ?_))))))))
 refine gX 9 O hS0 O (gX 10 O hS0 O (iI 11 O hS0 (fun _ => yx ah bK O O O (by omega)) ?_))
 refine mQ 12 O (Eb (i := i + r + 16) (m := L.drop i) H5d (fJ.from H5d.r4.aP (by omega)) ah (by kernel_rfl) (by rw [hm2]; rfl) O (by rw [hm2]; simp; omega)) ?_
 rintro _ w7 ⟨rfl, H7⟩
 refine LG (by kernel_rfl) ?_
 refine pq (mX (.inr O) results214 ?_)
 exact ⟨_, H7.swap.Og.right.Og.right⟩
theorem wX (H : V w0 w (jB p L pt mk • F)) : iQ prog 131 #[.pointer (some ⟨p, 0, none⟩)] w fun v w' => v = .bool false ∧ w = w' := by
  obtain ⟨a, c, xs, f, t, h1, h2, h3, h4, h5, h6, h7, hc1, hc2, hl, H1⟩ := H.buf
  exact wW _ H1.get.2 rfl
def gJ (pt i j n : Int) : Int := if j < pt then pt + (n - (j - i)) else if i ≤ pt then i + n else pt
def gZ (mk i j n : Int) : Int := if j < mk then mk + (n - (j - i)) else if i < mk then i else mk
def kN (at_ : Int) (d i : Value) : Array Value := #[.int .i64 at_, d, i]
theorem rD {at_ : Int} {d i : Value} (hd : d.oneCell' = true) (hi : i.oneCell' = true) : ∀ v ∈ (kN at_ d i).toList, v.oneCell' = true := by
  intro v hv
  simp [kN] at hv
  rcases hv with rfl | rfl | rfl <;> first | rfl | assumption
variable {v : Value} {l : List Int} {i j : Int}
theorem Kz (H : V w0 w (jB p L pt mk • F)) (hr : jh w0 F .i32 v l) (hb : i < 0 ∨ L.length < i ∨ j < i ∨ L.length < j) :
  iQ prog 202 #[.pointer (some ⟨p, 0, none⟩), .int .i64 i, .int .i64 j, v] w fun v' w' => v' = .tuple #[.agg (kN 0 (.slice none 0 0) (.slice none 0 0)), .int .i64 70] ∧ V w0 w' (jB p L pt mk • F) := by
 obtain ⟨a, c, rfl, _, _, _⟩ := (hr w H.right).open
 refine QD func202 ntmps202 ?_
 refine iy (kF (Bg H dY) ?_)
 rintro _ w1 ⟨b1, rfl, H1⟩
 refine dZ O (bM O (dS O func132 (vO H1.right) ?_))
 rintro _ w2 ⟨rfl, hD⟩
 have HL := H1.Bd hD
 refine uf O (bf (bM O (dS O func131 (wX HL.right) ?_)))
 rintro _ _ ⟨rfl, rfl⟩
 refine dZ O (aZ O (fun h1 => ?_) (fun h1 => ?_))
 ·(try simp only [Z] at h1)
  exfalso; first | contradiction | omega
 ·(try simp only [Z] at h1)
  refine bM O (aQ (gW O O) (jm O (fun h2 => ?_) (fun h2 => ?_)))
  ·(try simp only [Z] at h2)
   refine bn (bn (bn (je O O (bJ O (bn (bn (bn (je O O (bJ O (bn (bn (bn (je O O (dZ O (C9 (iy (aQ (nP (pl := #[(0, 1), (1, 1), (2, 1)]) (kN 0 (.slice none 0 0) (.slice none 0 0)) bD dY (fun w => by kernel_rfl) O (by kernel_rfl)) (aJ (iM (cs := kN 0 (.slice none 0 0) (.slice none 0 0)) HL dn O O O O (rD O O)) ?_))))))))))))))))))
   rintro _ w5 H5
   refine fA O (aU (aA ?_))
   refine pX (.inl O) kT O O bD O (by rw [uI]; rfl) H5.get.2 ?_
   exact ⟨O, H5.right⟩
  ·(try simp only [Z] at h2)
   refine aY (bJ O (aY (bJ O (aY (aQ (eX O O) (fG O O (jm O (fun h3 => ?_) (fun h3 => ?_))))))))
   ·(try simp only [Z] at h3)
    refine bn (bn (bn (je O O (bJ O (bn (bn (bn (je O O (dZ O (C9 (iy (aQ (nP (pl := #[(0, 1), (1, 1), (2, 1)]) (kN 0 (.slice none 0 0) (.slice none 0 0)) bD dY (fun w => by kernel_rfl) O (by kernel_rfl)) (aJ (iM (cs := kN 0 (.slice none 0 0) (.slice none 0 0)) HL dn O O O O (rD O O)) ?_)))))))))))))
    rintro _ w6 H6
    refine fA O (aU (aA ?_))
    refine pX (.inl O) kT O O bD O (by rw [uI]; rfl) H6.get.2 ?_
    exact ⟨O, H6.right⟩
   ·(try simp only [Z] at h3)
    refine aY (bJ O (aY (bJ O (aY (aQ (gW O O) (fG O O (jm O (fun h4 => ?_) (fun h4 => ?_))))))))
    ·(try simp only [Z] at h4)
     refine bn (bn (bn (je O O (dZ O (C9 (iy (aQ (nP (pl := #[(0, 1), (1, 1), (2, 1)]) (kN 0 (.slice none 0 0) (.slice none 0 0)) bD dY (fun w => by kernel_rfl) O (by kernel_rfl)) (aJ (iM (cs := kN 0 (.slice none 0 0) (.slice none 0 0)) HL dn O O O O (rD O O)) ?_))))))))
     rintro _ w7 H7
     refine fA O (aU (aA ?_))
     refine pX (.inl O) kT O O bD O (by rw [uI]; rfl) H7.get.2 ?_
     exact ⟨O, H7.right⟩
    ·(try simp only [Z] at h4)
     refine aY (bJ O (aY (bJ O (aY (aQ (eX O O) (fG O O (dZ O (wcA O (fun h5 => ?_)))))))))
     (try simp only [Z] at h5)
     refine iy (aQ (nP (pl := #[(0, 1), (1, 1), (2, 1)]) (kN 0 (.slice none 0 0) (.slice none 0 0)) bD dY (fun w => by kernel_rfl) O (by kernel_rfl)) (aJ (iM (cs := kN 0 (.slice none 0 0) (.slice none 0 0)) HL dn O O O O (rD O O)) ?_))
     rintro _ w8 H8
     refine fA O (aU (aA ?_))
     refine pX (.inl O) kT O O bD O (by rw [uI]; rfl) H8.get.2 ?_
     exact ⟨O, H8.right⟩
theorem Ja (H : V w0 w (jB p L pt mk • F)) (hr : jh w0 F .i32 v l) (hb : 0 ≤ i ∧ i ≤ j ∧ j ≤ L.length) (hl : 1024 < L.length - (j - i) + l.length) :
  iQ prog 202 #[.pointer (some ⟨p, 0, none⟩), .int .i64 i, .int .i64 j, v] w fun v' w' => v' = .tuple #[.agg (kN 0 (.slice none 0 0) (.slice none 0 0)), .int .i64 3] ∧ V w0 w' (jB p L pt mk • F) := by
 obtain ⟨a, c, rfl, _, _, _⟩ := (hr w H.right).open
 have hL4 : L.length ≤ 1024 := by obtain ⟨a, c, xs, f, t, h1, h2, h3, h4, h5, h6, h7, hc1, hc2, hl, H1⟩ := H.buf; exact h4
 refine QD func202 ntmps202 ?_
 refine iy (kF (Bg H dY) ?_)
 rintro _ w1 ⟨b1, rfl, H1⟩
 refine dZ O (bM O (dS O func132 (vO H1.right) ?_))
 rintro _ w2 ⟨rfl, hD⟩
 have HL := H1.Bd hD
 refine uf O (bf (bM O (dS O func131 (wX HL.right) ?_)))
 rintro _ _ ⟨rfl, rfl⟩
 refine dZ O (aZ O (fun h1 => ?_) (fun h1 => ?_))
 ·(try simp only [Z] at h1)
  exfalso; first | contradiction | omega
 ·(try simp only [Z] at h1)
  refine bM O (aQ (gW O O) (jm O (fun h2 => ?_) (fun h2 => ?_)))
  ·(try simp only [Z] at h2)
   exfalso; first | contradiction | omega
  ·(try simp only [Z] at h2)
   refine aY (bJ O (aY (bJ O (aY (aQ (eX O O) (fG O O (jm O (fun h3 => ?_) (fun h3 => ?_))))))))
   ·(try simp only [Z] at h3)
    exfalso; first | contradiction | omega
   ·(try simp only [Z] at h3)
    refine aY (bJ O (aY (bJ O (aY (aQ (gW O O) (fG O O (jm O (fun h4 => ?_) (fun h4 => ?_))))))))
    ·(try simp only [Z] at h4)
     exfalso; first | contradiction | omega
    ·(try simp only [Z] at h4)
     refine aY (bJ O (aY (bJ O (aY (aQ (eX O O) (fG O O (dZ O (VH O (fun h5 => ?_)))))))))
     (try simp only [Z] at h5)
     refine bM O (aQ (jH ah O) (jX O O (bJ O (aQ (jk O O (by omega)) (aQ (jk O O (by omega)) (aQ (jk O O (by omega)) (aQ (eX O O) (dZ O (wcA O (fun h6 => ?_))))))))))
     (try simp only [Z] at h6)
     refine iy (aQ (nP (pl := #[(0, 1), (1, 1), (2, 1)]) (kN 0 (.slice none 0 0) (.slice none 0 0)) bD dY (fun w => by kernel_rfl) O (by kernel_rfl)) (aJ (iM (cs := kN 0 (.slice none 0 0) (.slice none 0 0)) HL dn O O O O (rD O O)) ?_))
     rintro _ w8 H8
     refine fA O (aU (aA ?_))
     refine pX (.inl O) kT O O bD O (by rw [uI]; rfl) H8.get.2 ?_
     exact ⟨O, H8.right⟩
end
section
variable {w0 w : World} {F : HP} {p : Nat} {L : List Int} {pt mk : Int} {v : Value} {l : List Int} {i j : Int}
theorem LV {i j : Nat} (H : V w0 w (jB p L pt mk • F)) (hr : jh w0 F .i32 v l) (hb : i ≤ j ∧ j ≤ L.length) (hl : (L.length : Int) - ((j : Int) - i) + l.length ≤ 1024) :
    iQ prog 202 #[.pointer (some ⟨p, 0, none⟩), .int .i64 i, .int .i64 j, v] w fun v' w' => ∃ d s, v' = .tuple #[.agg (kN i d s), .int .i64 0] ∧
      V w0 w' (jw 21 .i32 d ((L.drop i).take (j - i)) • jw 21 .i32 s l • jB p (L.take i ++ l ++ L.drop j) (gJ pt i j l.length) (gZ mk i j l.length) • F) := by
  obtain ⟨a, c, rfl, hac, ajG, _⟩ := (hr w H.right).open
  obtain ⟨hL4, hpt, hmk⟩ : L.length ≤ 1024 ∧ (0 ≤ pt ∧ pt ≤ L.length) ∧ (-1 ≤ mk ∧ mk ≤ L.length) := by obtain ⟨a, c, xs, f, t, h1, h2, h3, h4, h5, h6, h7, hc1, hc2, hl, H1⟩ := H.buf; exact ⟨h4, h6, h7⟩
  have hg1 := VL (L := L) (i := i) (r := l.length) (by omega)
  have hg2 := Tc (L := L) (i := i) (r := l.length) (by omega)
  have hg3 := Td (L := L) (i := i) (r := l.length) (by omega)
  have hL' : L.take i ++ l ++ L.drop j = (iq (lZ L i l.length) i l).take (i + l.length) ++ (iq (lZ L i l.length) i l).drop (i + l.length + 16 + (j - i)) := by
    rw [JL (by omega), S9 (by omega) (by omega), hg2]
    congr 1
    rw [← List.drop_drop, hg3, List.drop_drop]
    congr 1; omega
  have hlen' : (L.take i ++ l ++ L.drop j).length = L.length - (j - i) + l.length := by simp; omega
  refine QD func202 ntmps202 ?_
  refine iy (kF (Bg H dY) ?_)
  rintro _ w1 ⟨b1, rfl, H1⟩
  refine dZ O (bM O (dS O func132 (vO H1.right) ?_))
  rintro _ w2 ⟨rfl, hD⟩
  have HL := H1.Bd hD
  refine uf O (bf (bM O (dS O func131 (wX HL.right) ?_)))
  rintro _ _ ⟨rfl, rfl⟩
  refine dZ O (aZ O (fun h1 => ?_) (fun h1 => ?_))
  · (try simp only [Z] at h1)
    exfalso; first | contradiction | omega
  · (try simp only [Z] at h1)
    refine bM O (aQ (gW O O) (jm O (fun h2 => ?_) (fun h2 => ?_)))
    · (try simp only [Z] at h2)
      exfalso; first | contradiction | omega
    · (try simp only [Z] at h2)
      refine aY (bJ O (aY (bJ O (aY (aQ (eX O O) (fG O O (jm O (fun h3 => ?_) (fun h3 => ?_))))))))
      · (try simp only [Z] at h3)
        exfalso; first | contradiction | omega
      · (try simp only [Z] at h3)
        refine aY (bJ O (aY (bJ O (aY (aQ (gW O O) (fG O O (jm O (fun h4 => ?_) (fun h4 => ?_))))))))
        · (try simp only [Z] at h4)
          exfalso; first | contradiction | omega
        · (try simp only [Z] at h4)
          refine aY (bJ O (aY (bJ O (aY (aQ (eX O O) (fG O O (dZ O (VH O (fun h5 => ?_)))))))))
          (try simp only [Z] at h5)
          refine bM O (aQ (jH ah O) (jX O O (bJ O (aQ (jk O O (by omega)) (aQ (jk O O (by omega)) (aQ (jk O O (by omega)) (aQ (eX O O) (dZ O (VH O (fun h6 => ?_))))))))))
          (try simp only [Z] at h6)
          refine dh (aH (aX (bM O (bJ O (dS O func126 (zo HL.swap) ?_)))))
          rintro u w8 H8
          obtain ⟨au, cu, hu, _⟩ := (H8.aP).form
          subst hu
          refine jX O O (aQ (yx ah bK O O O (by omega)) ?_)
          refine dS O func71 (oL H8 (fun W HW => fJ.cut HW.aP (i := i) (j := j) (by omega) (by omega)) (by simp; omega)) ?_
          rintro d w9 H9
          have HC := H9.swap.right
          obtain ⟨ad, cd, hd, _⟩ := (HC.aP).form
          subst hd
          refine bJ O (dS O func71 (oL HC hr.under.under.under (by omega)) ?_)
          rintro s w10 pz
          obtain ⟨ai, ci, hs, _⟩ := (pz.aP).form
          subst hs
          refine aQ (nP (pl := #[(0, 1), (1, 1), (2, 1)]) (kN i (.slice ad ((L.drop i).take (j - i)).length cd) (.slice ai l.length ci)) bD dY (fun w => by kernel_rfl) O (by kernel_rfl)) (kF (Bg pz dY) ?_)
          rintro _ FM ⟨b11, rfl, rY⟩
          refine aJ (iM (cs := kN i (.slice ad ((L.drop i).take (j - i)).length cd) (.slice ai l.length ci)) rY dn O O O O (rD O O)) ?_
          rintro _ w12 vM
          refine sG O (jX O O (aQ (jH ah O) (dS O func214 (QH vM.r4 (by omega) (by omega)) ?_)))
          rintro _ PD ⟨x, xI⟩
          obtain ⟨ax, cx, hx, _⟩ := (xI.swap.aP).form
          subst hx
          refine sG O (dK O (bI 3 bP O ay O (fC aC O xI.get.2 O (jX O O (aQ (jk O O (by omega)) (aQ (fQ O O (by omega)) (dK O (bI 3 bP O ay O (aJ (kH xI ay O O O (by rw [oC]; decide)) ?_)))))))))
          rintro _ Pz yF
          rw [Gs] at yF
          have ahT := yF.get.2
          refine rP ?_
          refine rV (n := 11) [0, 1, 2, 3, 4, 5, 6, 7, 8, 9, 10] (fun W => W.heap[p]? = some (.cells (jJ (.slice ax (lZ L i l.length).length cx) i ((i + l.length + 16 : Nat) + ((j : Int) - i)) pt mk) 197 (0, 0))) (by kernel_rfl) (by kernel_rfl) O ?_
          have hS0 : (fun W => W.heap[p]? = some (.cells (jJ (.slice ax (lZ L i l.length).length cx) i ((i + l.length + 16 : Nat) + ((j : Int) - i)) pt mk) 197 (0, 0))) (Pz.drew) := ahT
          have aas := yF.drew
          refine gX 0 O hS0 O (jE 1 O hS0 O (gy 2 O hS0 1 bP O bV O (jf 3 O hS0 (fun W hW => jv ah O hW O) (gX 4 O hS0 O (jE 5 O hS0 O (gy 6 O hS0 2 bP O ay O (jf 7 O hS0 (fun W hW => jv aC O hW O) (iI 8 O hS0 (fun _ => yx ah bK O O O (by omega)) ?_))))))))
          refine gX 9 O hS0 O (mQ 10 O (Eb (i := i) (m := l) aas.swap (hr _ aas.right.right.right.right.right.right) ah (by kernel_rfl) O O (by omega)) ?_)
          rintro _ QI ⟨rfl, yA⟩
          have HS := yA.swap
          refine LG (by kernel_rfl) ?_
          refine pq (aX (bM O (dK O (bI 2 bP O ay O (fC aC O HS.get.2 O (bJ O (aQ (jH ah O) (aQ (fQ O O (by omega)) (dK O (bI 2 bP O ay O (aJ (kH HS ay O O O (by rw [oC]; decide)) ?_)))))))))))
          rintro _ w16 vN
          rw [Dc] at vN
          refine rP (bf (bM O (dK O (bI 4 bP O ay O (fC aC O vN.get.2 O (bJ O (aQ (eX O O) (dZ O (aZ O (fun h7 => ?_) (fun h7 => ?_))))))))))
          · (try simp only [Z] at h7)
            refine aB (oq O O (bI 4 bP O ay O (fC aC O vN.get.2 O (bJ O (aQ (jH ah O) (jX O O (aQ (jk O O (by omega)) (aQ (jk O O (by omega)) (aQ (fQ O O (by omega)) (dK O (bI 4 bP O ay O (aJ (kH vN ay O O O (by rw [oC]; decide)) ?_))))))))))))
            rintro _ Z5 DF
            rw [BJ] at DF
            refine bZ (aH (aX (aI (bf (bM O (dK O (bI 5 bP O ay O (fC aC O DF.get.2 O (bJ O (aQ (eX O O) (dZ O (aZ O (fun h8 => ?_) (fun h8 => ?_)))))))))))))
            · (try simp only [Z] at h8)
              refine aB (oq O O (bI 5 bP O ay O (fC aC O DF.get.2 O (bJ O (aQ (jH ah O) (jX O O (aQ (jk O O (by omega)) (aQ (jk O O (by omega)) (aQ (fQ O O (by omega)) (dK O (bI 5 bP O ay O (aJ (kH DF ay O O O (by rw [oC]; decide)) ?_))))))))))))
              rintro _ w18 DZ
              rw [uj] at DZ
              refine bZ (aH (aX (aI ?_)))
              have vF := DZ.Og
              refine aB (aQ (dV bD O dn O O vF.get.2) (aJ (iM (cs := kN i (.slice ad ((L.drop i).take (j - i)).length cd) (.slice ai l.length ci)) vF.r6 dn O O O O (rD O O)) ?_))
              rintro _ w19 Ef
              refine fA O ?_
              refine pX (.inl O) kT O O bD O (by rw [uI]; rfl) Ef.get.2 ?_
              refine ⟨_, _, O, ?_⟩
              first
                | rw [show gJ pt i j l.length = pt + ((l.length : Int) - ((j : Int) - i)) from by unfold gJ; rw [if_pos (by omega)]]
                | rw [show gJ pt i j l.length = (i : Int) + l.length from by unfold gJ; rw [if_neg (by omega), if_pos (by omega)]]
                | rw [show gJ pt i j l.length = pt from by unfold gJ; rw [if_neg (by omega), if_neg (by omega)]]
              first
                | rw [show gZ mk i j l.length = mk + ((l.length : Int) - ((j : Int) - i)) from by unfold gZ; rw [if_pos (by omega)]]
                | rw [show gZ mk i j l.length = (i : Int) from by unfold gZ; rw [if_neg (by omega), if_pos (by omega)]]
                | rw [show gZ mk i j l.length = mk from by unfold gZ; rw [if_neg (by omega), if_neg (by omega)]]
              refine (V.wV (f := i + l.length) (t := i + l.length + 16 + (j - i)) (v := .slice ax (lZ L i l.length).length cx) (xs := iq (lZ L i l.length) i l) (by omega) (by rw [fE (by omega)]; omega) hL' (by omega) (by rw [fE (by omega)]; omega) (by omega) (by omega) ?_).d3.swap
              rw [show ((i + l.length : Nat) : Int) = (i : Int) + l.length from by omega, show ((i + l.length + 16 + (j - i) : Nat) : Int) = ((i + l.length + 16 : Nat) : Int) + ((j : Int) - i) from by omega]
              exact Ef.right.right
            · (try simp only [Z] at h8)
              refine bM O (dK O (bI 5 bP O ay O (fC aC O DF.get.2 O (bJ O (aQ (eX O O) (dZ O (aZ O (fun h9 => ?_) (fun h9 => ?_))))))))
              · (try simp only [Z] at h9)
                refine aB (jX O O (dK O (bI 5 bP O ay O (aJ (kH DF ay O O O (by rw [oC]; decide)) ?_))))
                rintro _ w20 E8
                rw [uj] at E8
                refine bZ (aH (aX (aI ?_)))
                have vF := E8.Og
                refine aB (aQ (dV bD O dn O O vF.get.2) (aJ (iM (cs := kN i (.slice ad ((L.drop i).take (j - i)).length cd) (.slice ai l.length ci)) vF.r6 dn O O O O (rD O O)) ?_))
                rintro _ w21 vF
                refine fA O ?_
                refine pX (.inl O) kT O O bD O (by rw [uI]; rfl) vF.get.2 ?_
                refine ⟨_, _, O, ?_⟩
                first
                  | rw [show gJ pt i j l.length = pt + ((l.length : Int) - ((j : Int) - i)) from by unfold gJ; rw [if_pos (by omega)]]
                  | rw [show gJ pt i j l.length = (i : Int) + l.length from by unfold gJ; rw [if_neg (by omega), if_pos (by omega)]]
                  | rw [show gJ pt i j l.length = pt from by unfold gJ; rw [if_neg (by omega), if_neg (by omega)]]
                first
                  | rw [show gZ mk i j l.length = mk + ((l.length : Int) - ((j : Int) - i)) from by unfold gZ; rw [if_pos (by omega)]]
                  | rw [show gZ mk i j l.length = (i : Int) from by unfold gZ; rw [if_neg (by omega), if_pos (by omega)]]
                  | rw [show gZ mk i j l.length = mk from by unfold gZ; rw [if_neg (by omega), if_neg (by omega)]]
                refine (V.wV (f := i + l.length) (t := i + l.length + 16 + (j - i)) (v := .slice ax (lZ L i l.length).length cx) (xs := iq (lZ L i l.length) i l) (by omega) (by rw [fE (by omega)]; omega) hL' (by omega) (by rw [fE (by omega)]; omega) (by omega) (by omega) ?_).d3.swap
                rw [show ((i + l.length : Nat) : Int) = (i : Int) + l.length from by omega, show ((i + l.length + 16 + (j - i) : Nat) : Int) = ((i + l.length + 16 : Nat) : Int) + ((j : Int) - i) from by omega]
                exact vF.right.right
              · (try simp only [Z] at h9)
                refine dh (aH (aX (aI ?_)))
                have vF := DF.Og
                refine aB (aQ (dV bD O dn O O vF.get.2) (aJ (iM (cs := kN i (.slice ad ((L.drop i).take (j - i)).length cd) (.slice ai l.length ci)) vF.r6 dn O O O O (rD O O)) ?_))
                rintro _ w22 KQ
                refine fA O ?_
                refine pX (.inl O) kT O O bD O (by rw [uI]; rfl) KQ.get.2 ?_
                refine ⟨_, _, O, ?_⟩
                first
                  | rw [show gJ pt i j l.length = pt + ((l.length : Int) - ((j : Int) - i)) from by unfold gJ; rw [if_pos (by omega)]]
                  | rw [show gJ pt i j l.length = (i : Int) + l.length from by unfold gJ; rw [if_neg (by omega), if_pos (by omega)]]
                  | rw [show gJ pt i j l.length = pt from by unfold gJ; rw [if_neg (by omega), if_neg (by omega)]]
                first
                  | rw [show gZ mk i j l.length = mk + ((l.length : Int) - ((j : Int) - i)) from by unfold gZ; rw [if_pos (by omega)]]
                  | rw [show gZ mk i j l.length = (i : Int) from by unfold gZ; rw [if_neg (by omega), if_pos (by omega)]]
                  | rw [show gZ mk i j l.length = mk from by unfold gZ; rw [if_neg (by omega), if_neg (by omega)]]
                refine (V.wV (f := i + l.length) (t := i + l.length + 16 + (j - i)) (v := .slice ax (lZ L i l.length).length cx) (xs := iq (lZ L i l.length) i l) (by omega) (by rw [fE (by omega)]; omega) hL' (by omega) (by rw [fE (by omega)]; omega) (by omega) (by omega) ?_).d3.swap
                rw [show ((i + l.length : Nat) : Int) = (i : Int) + l.length from by omega, show ((i + l.length + 16 + (j - i) : Nat) : Int) = ((i + l.length + 16 : Nat) : Int) + ((j : Int) - i) from by omega]
                exact KQ.right.right
          · (try simp only [Z] at h7)
            refine bM O (dK O (bI 4 bP O ay O (fC aC O vN.get.2 O (bJ O (aQ (lI O O) (dZ O (aZ O (fun h10 => ?_) (fun h10 => ?_))))))))
            · (try simp only [Z] at h10)
              refine aB (jX O O (bJ O (aQ (jH ah O) (aQ (fQ O O (by omega)) (dK O (bI 4 bP O ay O (aJ (kH vN ay O O O (by rw [oC]; decide)) ?_)))))))
              rintro _ w23 BK
              rw [BJ] at BK
              refine bZ (aH (aX (aI (bf (bM O (dK O (bI 5 bP O ay O (fC aC O BK.get.2 O (bJ O (aQ (eX O O) (dZ O (aZ O (fun h11 => ?_) (fun h11 => ?_)))))))))))))
              · (try simp only [Z] at h11)
                refine aB (oq O O (bI 5 bP O ay O (fC aC O BK.get.2 O (bJ O (aQ (jH ah O) (jX O O (aQ (jk O O (by omega)) (aQ (jk O O (by omega)) (aQ (fQ O O (by omega)) (dK O (bI 5 bP O ay O (aJ (kH BK ay O O O (by rw [oC]; decide)) ?_))))))))))))
                rintro _ w24 Oi
                rw [uj] at Oi
                refine bZ (aH (aX (aI ?_)))
                have vF := Oi.Og
                refine aB (aQ (dV bD O dn O O vF.get.2) (aJ (iM (cs := kN i (.slice ad ((L.drop i).take (j - i)).length cd) (.slice ai l.length ci)) vF.r6 dn O O O O (rD O O)) ?_))
                rintro _ w25 Sz
                refine fA O ?_
                refine pX (.inl O) kT O O bD O (by rw [uI]; rfl) Sz.get.2 ?_
                refine ⟨_, _, O, ?_⟩
                first
                  | rw [show gJ pt i j l.length = pt + ((l.length : Int) - ((j : Int) - i)) from by unfold gJ; rw [if_pos (by omega)]]
                  | rw [show gJ pt i j l.length = (i : Int) + l.length from by unfold gJ; rw [if_neg (by omega), if_pos (by omega)]]
                  | rw [show gJ pt i j l.length = pt from by unfold gJ; rw [if_neg (by omega), if_neg (by omega)]]
                first
                  | rw [show gZ mk i j l.length = mk + ((l.length : Int) - ((j : Int) - i)) from by unfold gZ; rw [if_pos (by omega)]]
                  | rw [show gZ mk i j l.length = (i : Int) from by unfold gZ; rw [if_neg (by omega), if_pos (by omega)]]
                  | rw [show gZ mk i j l.length = mk from by unfold gZ; rw [if_neg (by omega), if_neg (by omega)]]
                refine (V.wV (f := i + l.length) (t := i + l.length + 16 + (j - i)) (v := .slice ax (lZ L i l.length).length cx) (xs := iq (lZ L i l.length) i l) (by omega) (by rw [fE (by omega)]; omega) hL' (by omega) (by rw [fE (by omega)]; omega) (by omega) (by omega) ?_).d3.swap
                rw [show ((i + l.length : Nat) : Int) = (i : Int) + l.length from by omega, show ((i + l.length + 16 + (j - i) : Nat) : Int) = ((i + l.length + 16 : Nat) : Int) + ((j : Int) - i) from by omega]
                exact Sz.right.right
              · (try simp only [Z] at h11)
                refine bM O (dK O (bI 5 bP O ay O (fC aC O BK.get.2 O (bJ O (aQ (eX O O) (dZ O (aZ O (fun h12 => ?_) (fun h12 => ?_))))))))
                · (try simp only [Z] at h12)
                  refine aB (jX O O (dK O (bI 5 bP O ay O (aJ (kH BK ay O O O (by rw [oC]; decide)) ?_))))
                  rintro _ w26 Tf
                  rw [uj] at Tf
                  refine bZ (aH (aX (aI ?_)))
                  have vF := Tf.Og
                  refine aB (aQ (dV bD O dn O O vF.get.2) (aJ (iM (cs := kN i (.slice ad ((L.drop i).take (j - i)).length cd) (.slice ai l.length ci)) vF.r6 dn O O O O (rD O O)) ?_))
                  rintro _ w27 KR
                  refine fA O ?_
                  refine pX (.inl O) kT O O bD O (by rw [uI]; rfl) KR.get.2 ?_
                  refine ⟨_, _, O, ?_⟩
                  first
                    | rw [show gJ pt i j l.length = pt + ((l.length : Int) - ((j : Int) - i)) from by unfold gJ; rw [if_pos (by omega)]]
                    | rw [show gJ pt i j l.length = (i : Int) + l.length from by unfold gJ; rw [if_neg (by omega), if_pos (by omega)]]
                    | rw [show gJ pt i j l.length = pt from by unfold gJ; rw [if_neg (by omega), if_neg (by omega)]]
                  first
                    | rw [show gZ mk i j l.length = mk + ((l.length : Int) - ((j : Int) - i)) from by unfold gZ; rw [if_pos (by omega)]]
                    | rw [show gZ mk i j l.length = (i : Int) from by unfold gZ; rw [if_neg (by omega), if_pos (by omega)]]
                    | rw [show gZ mk i j l.length = mk from by unfold gZ; rw [if_neg (by omega), if_neg (by omega)]]
                  refine (V.wV (f := i + l.length) (t := i + l.length + 16 + (j - i)) (v := .slice ax (lZ L i l.length).length cx) (xs := iq (lZ L i l.length) i l) (by omega) (by rw [fE (by omega)]; omega) hL' (by omega) (by rw [fE (by omega)]; omega) (by omega) (by omega) ?_).d3.swap
                  rw [show ((i + l.length : Nat) : Int) = (i : Int) + l.length from by omega, show ((i + l.length + 16 + (j - i) : Nat) : Int) = ((i + l.length + 16 : Nat) : Int) + ((j : Int) - i) from by omega]
                  exact KR.right.right
                · (try simp only [Z] at h12)
                  refine dh (aH (aX (aI ?_)))
                  have vF := BK.Og
                  refine aB (aQ (dV bD O dn O O vF.get.2) (aJ (iM (cs := kN i (.slice ad ((L.drop i).take (j - i)).length cd) (.slice ai l.length ci)) vF.r6 dn O O O O (rD O O)) ?_))
                  rintro _ w28 H28
                  refine fA O ?_
                  refine pX (.inl O) kT O O bD O (by rw [uI]; rfl) H28.get.2 ?_
                  refine ⟨_, _, O, ?_⟩
                  first
                    | rw [show gJ pt i j l.length = pt + ((l.length : Int) - ((j : Int) - i)) from by unfold gJ; rw [if_pos (by omega)]]
                    | rw [show gJ pt i j l.length = (i : Int) + l.length from by unfold gJ; rw [if_neg (by omega), if_pos (by omega)]]
                    | rw [show gJ pt i j l.length = pt from by unfold gJ; rw [if_neg (by omega), if_neg (by omega)]]
                  first
                    | rw [show gZ mk i j l.length = mk + ((l.length : Int) - ((j : Int) - i)) from by unfold gZ; rw [if_pos (by omega)]]
                    | rw [show gZ mk i j l.length = (i : Int) from by unfold gZ; rw [if_neg (by omega), if_pos (by omega)]]
                    | rw [show gZ mk i j l.length = mk from by unfold gZ; rw [if_neg (by omega), if_neg (by omega)]]
                  refine (V.wV (f := i + l.length) (t := i + l.length + 16 + (j - i)) (v := .slice ax (lZ L i l.length).length cx) (xs := iq (lZ L i l.length) i l) (by omega) (by rw [fE (by omega)]; omega) hL' (by omega) (by rw [fE (by omega)]; omega) (by omega) (by omega) ?_).d3.swap
                  rw [show ((i + l.length : Nat) : Int) = (i : Int) + l.length from by omega, show ((i + l.length + 16 + (j - i) : Nat) : Int) = ((i + l.length + 16 : Nat) : Int) + ((j : Int) - i) from by omega]
                  exact H28.right.right
            · (try simp only [Z] at h10)
              refine dh (aH (aX (aI (bf (bM O (dK O (bI 5 bP O ay O (fC aC O vN.get.2 O (bJ O (aQ (eX O O) (dZ O (aZ O (fun h13 => ?_) (fun h13 => ?_)))))))))))))
              · (try simp only [Z] at h13)
                refine aB (oq O O (bI 5 bP O ay O (fC aC O vN.get.2 O (bJ O (aQ (jH ah O) (jX O O (aQ (jk O O (by omega)) (aQ (jk O O (by omega)) (aQ (fQ O O (by omega)) (dK O (bI 5 bP O ay O (aJ (kH vN ay O O O (by rw [oC]; decide)) ?_))))))))))))
                rintro _ w29 Z7
                rw [uj] at Z7
                refine bZ (aH (aX (aI ?_)))
                have vF := Z7.Og
                refine aB (aQ (dV bD O dn O O vF.get.2) (aJ (iM (cs := kN i (.slice ad ((L.drop i).take (j - i)).length cd) (.slice ai l.length ci)) vF.r6 dn O O O O (rD O O)) ?_))
                rintro _ w30 Vm
                refine fA O ?_
                refine pX (.inl O) kT O O bD O (by rw [uI]; rfl) Vm.get.2 ?_
                refine ⟨_, _, O, ?_⟩
                first
                  | rw [show gJ pt i j l.length = pt + ((l.length : Int) - ((j : Int) - i)) from by unfold gJ; rw [if_pos (by omega)]]
                  | rw [show gJ pt i j l.length = (i : Int) + l.length from by unfold gJ; rw [if_neg (by omega), if_pos (by omega)]]
                  | rw [show gJ pt i j l.length = pt from by unfold gJ; rw [if_neg (by omega), if_neg (by omega)]]
                first
                  | rw [show gZ mk i j l.length = mk + ((l.length : Int) - ((j : Int) - i)) from by unfold gZ; rw [if_pos (by omega)]]
                  | rw [show gZ mk i j l.length = (i : Int) from by unfold gZ; rw [if_neg (by omega), if_pos (by omega)]]
                  | rw [show gZ mk i j l.length = mk from by unfold gZ; rw [if_neg (by omega), if_neg (by omega)]]
                refine (V.wV (f := i + l.length) (t := i + l.length + 16 + (j - i)) (v := .slice ax (lZ L i l.length).length cx) (xs := iq (lZ L i l.length) i l) (by omega) (by rw [fE (by omega)]; omega) hL' (by omega) (by rw [fE (by omega)]; omega) (by omega) (by omega) ?_).d3.swap
                rw [show ((i + l.length : Nat) : Int) = (i : Int) + l.length from by omega, show ((i + l.length + 16 + (j - i) : Nat) : Int) = ((i + l.length + 16 : Nat) : Int) + ((j : Int) - i) from by omega]
                exact Vm.right.right
              · (try simp only [Z] at h13)
                refine bM O (dK O (bI 5 bP O ay O (fC aC O vN.get.2 O (bJ O (aQ (eX O O) (dZ O (aZ O (fun h14 => ?_) (fun h14 => ?_))))))))
                · (try simp only [Z] at h14)
                  refine aB (jX O O (dK O (bI 5 bP O ay O (aJ (kH vN ay O O O (by rw [oC]; decide)) ?_))))
                  rintro _ w31 Vo
                  rw [uj] at Vo
                  refine bZ (aH (aX (aI ?_)))
                  have vF := Vo.Og
                  refine aB (aQ (dV bD O dn O O vF.get.2) (aJ (iM (cs := kN i (.slice ad ((L.drop i).take (j - i)).length cd) (.slice ai l.length ci)) vF.r6 dn O O O O (rD O O)) ?_))
                  rintro _ w32 PE
                  refine fA O ?_
                  refine pX (.inl O) kT O O bD O (by rw [uI]; rfl) PE.get.2 ?_
                  refine ⟨_, _, O, ?_⟩
                  first
                    | rw [show gJ pt i j l.length = pt + ((l.length : Int) - ((j : Int) - i)) from by unfold gJ; rw [if_pos (by omega)]]
                    | rw [show gJ pt i j l.length = (i : Int) + l.length from by unfold gJ; rw [if_neg (by omega), if_pos (by omega)]]
                    | rw [show gJ pt i j l.length = pt from by unfold gJ; rw [if_neg (by omega), if_neg (by omega)]]
                  first
                    | rw [show gZ mk i j l.length = mk + ((l.length : Int) - ((j : Int) - i)) from by unfold gZ; rw [if_pos (by omega)]]
                    | rw [show gZ mk i j l.length = (i : Int) from by unfold gZ; rw [if_neg (by omega), if_pos (by omega)]]
                    | rw [show gZ mk i j l.length = mk from by unfold gZ; rw [if_neg (by omega), if_neg (by omega)]]
                  refine (V.wV (f := i + l.length) (t := i + l.length + 16 + (j - i)) (v := .slice ax (lZ L i l.length).length cx) (xs := iq (lZ L i l.length) i l) (by omega) (by rw [fE (by omega)]; omega) hL' (by omega) (by rw [fE (by omega)]; omega) (by omega) (by omega) ?_).d3.swap
                  rw [show ((i + l.length : Nat) : Int) = (i : Int) + l.length from by omega, show ((i + l.length + 16 + (j - i) : Nat) : Int) = ((i + l.length + 16 : Nat) : Int) + ((j : Int) - i) from by omega]
                  exact PE.right.right
                · (try simp only [Z] at h14)
                  refine dh (aH (aX (aI ?_)))
                  have vF := vN.Og
                  refine aB (aQ (dV bD O dn O O vF.get.2) (aJ (iM (cs := kN i (.slice ad ((L.drop i).take (j - i)).length cd) (.slice ai l.length ci)) vF.r6 dn O O O O (rD O O)) ?_))
                  rintro _ w33 Vp
                  refine fA O ?_
                  refine pX (.inl O) kT O O bD O (by rw [uI]; rfl) Vp.get.2 ?_
                  refine ⟨_, _, O, ?_⟩
                  first
                    | rw [show gJ pt i j l.length = pt + ((l.length : Int) - ((j : Int) - i)) from by unfold gJ; rw [if_pos (by omega)]]
                    | rw [show gJ pt i j l.length = (i : Int) + l.length from by unfold gJ; rw [if_neg (by omega), if_pos (by omega)]]
                    | rw [show gJ pt i j l.length = pt from by unfold gJ; rw [if_neg (by omega), if_neg (by omega)]]
                  first
                    | rw [show gZ mk i j l.length = mk + ((l.length : Int) - ((j : Int) - i)) from by unfold gZ; rw [if_pos (by omega)]]
                    | rw [show gZ mk i j l.length = (i : Int) from by unfold gZ; rw [if_neg (by omega), if_pos (by omega)]]
                    | rw [show gZ mk i j l.length = mk from by unfold gZ; rw [if_neg (by omega), if_neg (by omega)]]
                  refine (V.wV (f := i + l.length) (t := i + l.length + 16 + (j - i)) (v := .slice ax (lZ L i l.length).length cx) (xs := iq (lZ L i l.length) i l) (by omega) (by rw [fE (by omega)]; omega) hL' (by omega) (by rw [fE (by omega)]; omega) (by omega) (by omega) ?_).d3.swap
                  rw [show ((i + l.length : Nat) : Int) = (i : Int) + l.length from by omega, show ((i + l.length + 16 + (j - i) : Nat) : Int) = ((i + l.length + 16 : Nat) : Int) + ((j : Int) - i) from by omega]
                  exact Vp.right.right
end
def mvP (n : Nat) (pt x : Int) : Int := if 0 ≤ x ∧ x ≤ n then x else pt
def mvE (n : Nat) (x : Int) : Int := if 0 ≤ x ∧ x ≤ n then 0 else 70
def xX (v : Value) (pt mk : Int) : Array Value := #[v, .int .i64 pt, .int .i64 mk]
theorem YV {v : Value} {pt mk : Int} (h : v.oneCell' = true) : ∀ u ∈ (xX v pt mk).toList, u.oneCell' = true := by
  intro u hu
  simp [xX] at hu
  rcases hu with rfl | rfl | rfl
  · exact h
  · rfl
  · rfl
section
variable {w0 w : World} {F : HP} {p : Nat} {L : List Int} {pt mk x : Int} {v : Value} {l : List Int}
theorem QJ (H : V w0 w (jB p L pt mk • F)) : iQ prog 82 #[.pointer (some ⟨p, 0, none⟩), .int .i64 x] w fun v w' => v = .int .i64 (mvE L.length x) ∧ V w0 w' (jB p L (mvP L.length pt x) mk • F) := by
 refine qc func82 ntmps82 ?_
 refine ku O (aI (bf (bM O (dS O func131 (wX H) ?_))))
 rintro _ _ ⟨rfl, rfl⟩
 refine dZ O (aZ O (fun h1 => ?_) (fun h1 => ?_))
 ·(try simp only [Z] at h1)
  exfalso; first | contradiction | omega
 ·(try simp only [Z] at h1)
  refine bM O (aQ (gW O O) (jm O (fun h2 => ?_) (fun h2 => ?_)))
  ·(try simp only [Z] at h2)
   refine bn (bn (bn (bn (je O O (dZ O (C9 (kC O (aU (aA (dI results82 O ?_))))))))))
   exact ⟨by rw [mvE, if_neg (by omega)], by rw [mvP, if_neg (by omega)]; exact H⟩
  ·(try simp only [Z] at h2)
   refine aY (bJ O (aY (bJ O (aY (dS O func132 (vO H) ?_)))))
   rintro _ w2 ⟨rfl, hD⟩
   have HL := H.Bd hD
   refine aY (aQ (eX O O) (fG O O (dZ O (aZ O (fun h3 => ?_) (fun h3 => ?_)))))
   ·(try simp only [Z] at h3)
    refine kC O (aU (aA (dI results82 O ?_)))
    exact ⟨by rw [mvE, if_neg (by omega)], by rw [mvP, if_neg (by omega)]; exact HL⟩
   ·(try simp only [Z] at h3)
    refine dh (aH (aX (aI ?_)))
    obtain ⟨a, c, xs, f, t, h11, h12, h13, h14, h15, h16, h17, hc1, hc2, hl, HB⟩ := HL.buf
    refine aB (jX O O (dK O (bI 4 bP O ay O (aJ (kH HB ay O O O (by rw [oC]; decide)) ?_))))
    rintro _ w3 H3
    rw [BJ] at H3
    refine iE (kC O (dI results82 O ?_))
    exact ⟨by rw [mvE, if_pos (by omega)], by rw [mvP, if_pos (by omega)]; exact V.wV h11 h12 h13 h14 h15 (by omega) h17 H3⟩
theorem Ht (H : V w0 w (jB p L pt mk • F)) : iQ prog 79 #[.pointer (some ⟨p, 0, none⟩)] w fun v' w' => ∃ u, v' = .agg (xX u pt mk) ∧ V w0 w' (jw 21 .i32 u L • jB p L pt mk • F) := by
 refine ji func79 ntmps79 ?_
 refine iy (kF (Bg H zeroValue46) ?_)
 rintro _ w1 ⟨b1, rfl, H1⟩
 refine sG O (dS O func126 (zo H1.swap) ?_)
 rintro u w2 H2
 obtain ⟨au, cu, hu, _⟩ := (H2.aP).form
 subst hu
 refine bJ O (dS O func127 (Ot H2.swap) ?_)
 rintro _ _ ⟨rfl, rfl⟩
 refine bJ O (dS O func128 (QG H2.swap) ?_)
 rintro _ _ ⟨rfl, rfl⟩
 refine aQ (nP (pl := #[(0, 1), (1, 1), (2, 1)]) (xX (.slice au L.length cu) pt mk) iD zeroValue46 (fun w => by kernel_rfl) O (by kernel_rfl)) (aJ (iM (cs := xX (.slice au L.length cu) pt mk) H2.Og sizeOf46 O O O O (YV O)) ?_)
 rintro _ w5 H5
 refine zkc ?_
 refine acK (.inl O) results79 O iD O (by rw [aat]; rfl) H5.get.2 ?_
 exact ⟨_, O, H5.right⟩
end
end Go.Proofs.YtpdeedplgmbopaaGreatDoor
end
section
namespace Go.Proofs.YtpdeedplgmbopaaGreatDoor
open Go.RowKit
def aau (g : Int → Bool) (l : List Int) (at_ : Nat) : Nat := at_ + ((l.drop at_).takeWhile g).length
def aav (g : Int → Bool) (l : List Int) (at_ : Nat) : Nat := at_ - ((l.take at_).reverse.takeWhile g).length
def Hu (n : Nat) (x : Int) : Nat := (min (max x 0) n).toNat
section
variable {w0 w : World} {F G : HP} {v fv : Value} {l : List Int} {g : Int → Bool}
def agm (l : List Int) (x : Int) : Nat := aau fH l (aau (fun r => !fH r) l (Hu l.length x))
def aeS (l : List Int) (x : Int) : Nat := aav fH l (aav (fun r => !fH r) l (Hu l.length x))
def XM (r : Int) : Bool := decide (Ec r ≠ 0) || mD r
def ajm (l : List Int) (x : Int) : Nat := if Hu l.length x < l.length then aau (fun r => !XM r) l (Hu l.length x + 1) else l.length
def ajn (l : List Int) (x : Int) : Nat := aav (fun r => !XM r) l (Hu l.length x) - 1
end
section
variable {w0 w : World} {F : HP} {p : Nat} {L : List Int} {pt mk : Int} {v : Value} {l : List Int}
end

section
variable {w0 w : World} {F : HP} {p : Nat} {L : List Int} {pt mk a : Int} {d i : Value} {dl il : List Int}
end
end Go.Proofs.YtpdeedplgmbopaaGreatDoor
end
section
namespace Go.Proofs.YtpdeedplgmbopaaGreatDoor
open Go.RowKit
open _root_.Go.Proofs.Tryz
def mF (L : List Int) (i j : Int) (l : List Int) : Int := if i < 0 ∨ L.length < i ∨ j < i ∨ L.length < j then 70 else if 1024 < L.length - (j - i) + l.length then 3 else 0
def mV (L : List Int) (i j : Int) (l : List Int) : List Int := if mF L i j l = 0 then L.take i.toNat ++ l ++ L.drop j.toNat else L
def uy (L : List Int) (pt i j : Int) (l : List Int) : Int := if mF L i j l = 0 then gJ pt i j l.length else pt
def wY (L : List Int) (mk i j : Int) (l : List Int) : Int := if mF L i j l = 0 then gZ mk i j l.length else mk
def uz (L : List Int) (i j : Int) (l : List Int) : Int := if mF L i j l = 0 then i else 0
def nR (L : List Int) (i j : Int) (l : List Int) : List Int := if mF L i j l = 0 then (L.drop i.toNat).take (j - i).toNat else []
def nS (L : List Int) (i j : Int) (l : List Int) : List Int := if mF L i j l = 0 then l else []
section
variable {w0 w : World} {F : HP} {p : Nat} {L : List Int} {pt mk : Int} {v d s : Value} {l dl il : List Int} {i j a x : Int}
theorem KA (H : V w0 w (jB p L pt mk • F)) (hr : jh w0 F .i32 v l) :
    iQ prog 202 #[.pointer (some ⟨p, 0, none⟩), .int .i64 i, .int .i64 j, v] w fun v' w' => ∃ d s, v' = .tuple #[.agg #[.int .i64 (uz L i j l), d, s], .int .i64 (mF L i j l)] ∧
      V w0 w' (jw 21 .i32 d (nR L i j l) • jw 21 .i32 s (nS L i j l) • jB p (mV L i j l) (uy L pt i j l) (wY L mk i j l) • F) := by
  unfold uz mV uy wY nR nS
  by_cases h1 : i < 0 ∨ L.length < i ∨ j < i ∨ L.length < j
  · have e : mF L i j l = 70 := by unfold mF; rw [if_pos h1]
    simp only [e, show ¬ (70 : Int) = 0 from by decide, if_false]
    exact (Kz H hr h1).mono fun v' w' h => ⟨_, _, h.1, (h.2.Ho none).Ho none⟩
  · have h2 : 0 ≤ i ∧ i ≤ j ∧ j ≤ L.length := by omega
    by_cases h3 : 1024 < L.length - (j - i) + l.length
    · have e : mF L i j l = 3 := by unfold mF; rw [if_neg h1, if_pos h3]
      simp only [e, show ¬ (3 : Int) = 0 from by decide, if_false]
      exact (Ja H hr h2 h3).mono fun v' w' h => ⟨_, _, h.1, (h.2.Ho none).Ho none⟩
    · have e : mF L i j l = 0 := by unfold mF; rw [if_neg h1, if_neg h3]
      simp only [e, if_true]
      obtain ⟨i', rfl⟩ := Int.eq_ofNat_of_zero_le h2.1
      obtain ⟨j', rfl⟩ := Int.eq_ofNat_of_zero_le (show 0 ≤ j by omega)
      have hij : i' ≤ j' ∧ j' ≤ L.length := by omega
      have := LV (i := i') (j := j') H hr hij (by omega)
      simpa only [Int.toNat_natCast, show ((j' : Int) - (i' : Int)).toNat = j' - i' from by omega, kN] using this
def smE (L : List Int) (x : Int) : Int := if x < -1 ∨ L.length < x then 70 else 0
def smM (L : List Int) (mk x : Int) : Int := if x < -1 ∨ L.length < x then mk else x
def swE (mk : Int) : Int := if mk < 0 then 6 else 0
def swP (pt mk : Int) : Int := if mk < 0 then pt else mk
def swM (pt mk : Int) : Int := if mk < 0 then mk else pt
theorem Ou (H : V w0 w (jB p L pt mk • F)) : iQ prog 129 #[.pointer (some ⟨p, 0, none⟩)] w fun v' w' => ∃ q, v' = .pointer (some ⟨q, 0, none⟩) ∧ V w0 w' (jB q L pt mk • jB p L pt mk • F) := by
 refine ji func129 ntmps129 ?_
 refine ku O (aI (bM O (dS O func131 (wX H) ?_)))
 rintro _ _ ⟨rfl, rfl⟩
 refine iE (oh (fV (aI ?_)))
 obtain ⟨ajH, ajI, ajJ, f_p, t_p, agn, agp, agq, agr, ags, agt, ajK, ajL, ajM, ajo, agu⟩ := (H).buf
 refine aB (oq O O (aQ (dV bP O sizeOf197 O O (agu).get.2) (kF (iR (l := [_, _, _, _, _, _]) agu zeroValue197 O) ?_)))
 rintro _ w3 ⟨b3, rfl, H3⟩
 refine aJ (dG 0 (l' := [_, _, _, _, _, _]) (us := [_, _, _, _, _, _]) H3 sizeOf197 O O O (aG (bg (by first | rfl | exact Rd.one ((H3.f3).aP)) (aG (aG (aG (aG bW)))))) O O) ?_
 rintro _ w4 H4
 refine sG O (dK O (bI 1 bP O bV O (fC ah O (H4.f2).get.2 O (dS O func71 (oL H4 (fun W HW => (HW.f3).aP) (by omega)) ?_))))
 rintro u5 w5 H5
 refine bI 1 bP O bV O (aJ (gB 1 (l' := [_, _, _, _, _, _]) H5.f2 bV O O (by first | rfl | exact Rd.one ((H5).aP)) O O) ?_)
 rintro _ w6 H6
 refine iE (kC O (dI results129 O ?_))
 exact ⟨_, O, (V.wV agn agp agq agr ags agt (by omega) (V.wV agn agp agq agr ags agt (by omega) H6.f4.f4.f4.f4).f2.f3.f2).f2⟩
def Ti (L : List Int) (a : Int) (dl : List Int) : Bool := decide ((dl.length : Int) ≤ L.length - a) && ((L.drop a.toNat).take dl.length == dl)
def VN (L : List Int) (a : Int) (dl il : List Int) : Int := if a < 0 ∨ L.length < a then 70 else if Ti L a dl then mF L a (a + dl.length) il else 71
def LW (L : List Int) (a : Int) (dl il : List Int) : List Int := if VN L a dl il = 0 then mV L a (a + dl.length) il else L
def ahU (L : List Int) (pt a : Int) (dl il : List Int) : Int := if VN L a dl il = 0 then uy L pt a (a + dl.length) il else pt
def ahV (L : List Int) (mk a : Int) (dl il : List Int) : Int := if VN L a dl il = 0 then wY L mk a (a + dl.length) il else mk
end
end Go.Proofs.YtpdeedplgmbopaaGreatDoor
end
