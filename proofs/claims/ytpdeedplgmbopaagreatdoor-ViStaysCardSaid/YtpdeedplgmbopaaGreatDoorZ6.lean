import Derived.Test.YtpdeedplgmbopaaGreatDoorZ4
import Derived.Test.YtpdeedplgmbopaaGreatDoorProg
import Derived.Test.YtpdeedplgmbopaaGreatDoorZ3
import Derived.Test.YtpdeedplgmbopaaGreatDoorZ5
set_option linter.unusedSimpArgs false
set_option linter.unusedVariables false
/- Texts of mine, joined, their names in short: Slices Buf Buf2 Buf3 LineP Move BLive. -/
section
namespace Go.Proofs.YtpdeedplgmbopaaGreatDoor
open Go.RowKit
open _root_.Go.Proofs.Tryz
theorem GY : (prog.info? 21).map (fun i => (i.zero, i.size, i.bytes)) = some (some (.int .i32 0), 1, 4) := by kernel_rfl
theorem qy {w0 w : World} {F : HP} {v : Value} {l : List Int} (H : V w0 w F) (hr : jO w0 F .i32 v l) (hb : l.length * 4 ≤ 140737488355328) :
    jf prog 71 #[v] w fun v' w' => V w0 w' (je 21 .i32 v' l • F) := by
  obtain ⟨a, c, rfl, h1, h2, h3⟩ := (hr w H).open
  refine jE func71 ntmps71 ?_
  refine kH O (aI (bI O (aV (GK ah O O) ?_)))
  refine iW O (fun h1 => ?_) (fun h1 => ?_)
  · (try simp only [Z] at h1)
    refine jS O (aC (dL results71 O ?_))
    obtain rfl : a = none := by simpa using h1
    obtain rfl : l = [] := by
      cases l with
      | nil => rfl
      | cons x l => obtain ⟨b, o, e, _⟩ := h3 (by simp); cases e
    exact H.kF none
  · (try simp only [Z] at h1)
    refine gy (jg (kV (nV (vs := []) H ah bP lW O O O (by decide) (by simp)) ?_))
    rintro _ w1 H1
    refine bW O (kV (nH (l := []) H1 (hr.under _ H1) ah GY O O (by simp; omega) (by simpa using hb)) ?_)
    rintro _ w2 H2
    refine fP O (dL results71 O ?_)
    exact H2
theorem acx {w0 w : World} {F : HP} {n : Int} (H : V w0 w F) (h0 : 0 ≤ n) (hb : n ≤ 70368744177664) :
  jf prog 195 #[.slice none 0 0, .int .i64 n] w fun v' w' => V w0 w' (je 21 .i32 v' [] • F) := by
 refine qo func195 ntmps195 ?_
 refine kH O (aI (bI O (aV (gG O O) (iR (Yk O (fun h1 => ?_))))))
 (try simp only [Z] at h1)
 refine gy (aI (bI O (bW O (aV (agC ah O) (bW O (aV (jd ah O) (aV (jJ O O (by omega)) (aV (jJ O O (by omega)) (fO O (bI O (aV (gK O O) (iW O (fun h2 => ?_) (fun h2 => ?_)))))))))))))
 ·(try simp only [Z] at h2)
  refine aF (jU O O (aV (agC ah O) (aV (Au ah bP O O O (by omega)) ?_)))
  refine bW O (kV (Oz H ah aA GY O O (by omega) (by omega) (by omega)) ?_)
  rintro _ w1 ⟨g, c, cur, rfl, hc1, hc2, hc3, H1⟩
  refine bW O (aV (jd ah O) (aV (Au ah bP O O O (by omega)) ?_))
  refine fO O (bI O (fP O (dL results195 O ?_)))
  exact H1.Dz (o := 0) (by simp) (SE 1 0 g 0 _ c) (by simp) hc2 (by simpa using hc3) (by simp)
 ·(try simp only [Z] at h2)
  refine gy (bI O (fP O (dL results195 O ?_)))
  exact H.kF none
theorem Yn {w0 w : World} {F : HP} {v : Value} {vs : List Value} {ls : List (List Int)} (H : V w0 w F) (hv : Ua w0 F 1 v ls.length vs) (hls : ∀ k, k < ls.length → jO w0 F .i32 (vs.getD k undef) (ls.getD k [])) (hb : ls.flatten.length * 4 ≤ 140737488355328) :
  jf prog 172 #[v] w fun v' w' => V w0 w' (je 21 .i32 v' ls.flatten • F) := by
 obtain ⟨_, a, c, rfl, hc1, hc2, _⟩ := hv w H
 refine jE func172 ntmps172 ?_
 refine kH O (kH O (aI (bI O (aV (jd gQ O) (bW O (iR (bf ?_)))))))
 refine iy [(0, _), (9, _), (10, _)] (fun (k : Nat) => [(3, .int .i64 ((ls.take k).flatten.length : Int)), (11, .int .i64 (k : Int))]) (fun (k : Nat) W => k ≤ ls.length ∧ V w0 W F) (fun (k : Nat) => ls.length - k) (0) wW (Sub.kJ O (by simp) (Sub.kJ O (O) (Sub.nil _))) ⟨by omega, H⟩ ?_
 rintro k w1 ⟨hk, HL⟩
 dsimp only [List.cons_append, List.nil_append]
 refine jg (aV (gG O O) (rW (bg O (fun h1 => ?_) (fun h1 => ?_))))
 ·(try simp only [Z] at h1)
  refine gy (aI (bf (aI ?_)))
  have hk1 : k < ls.length := by omega
  obtain ⟨b, o, rfl, hc⟩ := hv.cell HL (j := k) (by omega)
  obtain ⟨ak, ck, ek, hk2, hk3, _⟩ := (hls k hk1 _ HL).open
  rw [ek] at hc
  have hfl := Ub ls (k + 1)
  rw [II ls hk1, List.length_append] at hfl
  refine aF (aV (dI gQ bD O O (by omega)) ?_)
  refine aV (dW (bV ah O) O (by rw [show ((k : Int).toNat * 1) = k from by omega]; exact hc)) ?_
  refine fO O (bI O (bW O (aV (jd ah O) (aV (fH O O (by omega)) (fO O (bI O (aV (gG O O) (iR (Yk O (fun h2 => ?_))))))))))
  (try simp only [Z] at h2)
  refine bU (aH (aU (aF (aV (fH O O (by omega)) (bW O (bT ?_))))))
  refine dN (k + 1) ?_ ?_ ?_ ?_
  ·exact (Sub.kJ O (by rw [II ls hk1, List.length_append, Int.natCast_add]) lH)
  ·exact wW
  ·(try dsimp only)
   first | done | exact ⟨by omega, HL⟩
  ·(try dsimp only); omega
 ·(try simp only [Z] at h1)
  refine dR (aP (aP (bH (aU (bI O (dX O func195 (acx HL (by omega) (by have := Ub ls k; omega)) ?_))))))
  rintro vg w2 H2
  refine tX O (bI O (aV (jd gQ O) (bW O (iR (bf ?_)))))
  refine iy [(25, _), (26, _)] (fun (⟨k, u⟩ : Nat × Value) => [(6, u), (27, .int .i64 (k : Int))]) (fun (⟨k, u⟩ : Nat × Value) W => k ≤ ls.length ∧ V w0 W (je 21 .i32 u (ls.take k).flatten • F)) (fun (⟨k, u⟩ : Nat × Value) => ls.length - k) ((0, vg)) sG sG ⟨by omega, H2⟩ ?_
  rintro ⟨k, u⟩ w3 ⟨hk, HM⟩
  dsimp only [List.cons_append, List.nil_append]
  refine jg (aV (gG O O) (rW (bg O (fun h3 => ?_) (fun h3 => ?_))))
  ·(try simp only [Z] at h3)
   refine gy (aI (bf (aI ?_)))
   have hk1 : k < ls.length := by omega
   obtain ⟨b, o, rfl, hc⟩ := hv.cell HM.right (j := k) (by omega)
   have hrk := hls k hk1
   have hfl := Ub ls (k + 1)
   rw [II ls hk1, List.length_append] at hfl
   refine aF (aV (dI gQ bD O O (by omega)) ?_)
   refine aV (dW (bV ah O) O (by rw [show ((k : Int).toNat * 1) = k from by omega]; exact hc)) ?_
   refine fO O (aF (jU O O (kV (nH HM (hrk _ HM.right) ah GY O O (by omega) (by omega)) ?_)))
   rintro va w4 H4
   refine gW O (bT (aH (aU (aF (aV (fH O O (by omega)) (bW O (bT ?_)))))))
   refine dN ((k + 1, va)) ?_ ?_ ?_ ?_
   ·exact sG
   ·exact sG
   ·(try dsimp only)
    first | done | exact ⟨by omega, by rw [II ls hk1]; exact H4⟩
   ·(try dsimp only); omega
  ·(try simp only [Z] at h3)
   refine dR (aP (aP (bH (aU (bI O (fP O (dL results172 O ?_)))))))
   rw [List.take_of_length_le (by omega)] at HM; exact HM
theorem GZ {w0 w : World} {F : HP} {b : Nat} {T : TypeId} {u1 u2 : Value} {l1 l2 : List Int} (H : V w0 w (gJ b (.cells #[u1, u2] T (0, 0)) • F)) (h1 : jO w0 (gJ b (.cells #[u1, u2] T (0, 0)) • F) .i32 u1 l1) (h2 : jO w0 (gJ b (.cells #[u1, u2] T (0, 0)) • F) .i32 u2 l2)
    (hb : (l1.length + l2.length) * 4 ≤ 140737488355328) :
    jf prog 172 #[.slice (some ⟨b, 0, none⟩) 2 2] w fun v' w' => V w0 w' (je 21 .i32 v' (l1 ++ l2) • gJ b (.cells #[u1, u2] T (0, 0)) • F) := by
  have := Yn (ls := [l1, l2]) (vs := [u1, u2]) (v := .slice (some ⟨b, 0, none⟩) 2 2) H (fun W HW => ⟨rfl, _, 2, rfl, by simp, by decide, fun _ => ⟨b, 0, rfl, fun j hj => ?_⟩⟩) (fun k hk => ?_) (by simpa using hb)
  · simpa using this
  · refine iI HW.get.2 ?_
    simp at hj
    match j, hj with
    | 0, _ => rfl
    | 1, _ => rfl
  · simp at hk
    match k, hk with
    | 0, _ => exact h1
    | 1, _ => exact h2
theorem VF {s i j : Nat} {v : Value} (h : v.oneCell' = true) : (wV s i j v).oneCell' = true := by cases v <;> simp_all [wV, Value.oneCell']
def kL (v : Value) (f t pt mk : Int) : Array Value := #[.bool true, v, .int .i64 f, .int .i64 t, .int .i64 pt, .int .i64 mk]
theorem afl {a b : Value} (h : a.oneCell' = true) (k : b.oneCell' = true) : ∀ u ∈ [a, b], u.oneCell' = true := by
  intro u hu; simp at hu; rcases hu with rfl | rfl
  · exact h
  · exact k
section
variable {v u : Value} {f t pt mk x : Int}
theorem qO : (kL v f t pt mk).size = 6 := rfl
theorem aa3 : (kL v f t pt mk).setIfInBounds 1 u = kL u f t pt mk := rfl
theorem FI : (kL v f t pt mk).setIfInBounds 2 (.int .i64 x) = kL v x t pt mk := rfl
theorem JG : (kL v f t pt mk).setIfInBounds 3 (.int .i64 x) = kL v f x pt mk := rfl
theorem EC : (kL v f t pt mk).setIfInBounds 4 (.int .i64 x) = kL v f t x mk := rfl
theorem xA : (kL v f t pt mk).setIfInBounds 5 (.int .i64 x) = kL v f t pt x := rfl
end
def jF (p : Nat) (L : List Int) (pt mk : Int) : HP := zX fun (x : Value × List Int × Nat × Nat) =>
  fact (x.2.2.1 ≤ x.2.2.2 ∧ x.2.2.2 ≤ x.2.1.length ∧ L = x.2.1.take x.2.2.1 ++ x.2.1.drop x.2.2.2 ∧ L.length ≤ 1024 ∧ x.2.1.length ≤ 4096 ∧ (0 ≤ pt ∧ pt ≤ L.length) ∧ (-1 ≤ mk ∧ mk ≤ L.length)) •
    gJ p (.cells (kL x.1 x.2.2.1 x.2.2.2 pt mk) 197 (0, 0)) • je 21 .i32 x.1 x.2.1
section
variable {w0 w : World} {F : HP} {p : Nat} {L : List Int} {pt mk : Int}
theorem V.buf (H : V w0 w (jF p L pt mk • F)) : ∃ (a : Option Addr) (c : Nat) (xs : List Int) (f t : Nat), f ≤ t ∧ t ≤ xs.length ∧ L = xs.take f ++ xs.drop t ∧ L.length ≤ 1024 ∧ xs.length ≤ 4096 ∧ (0 ≤ pt ∧ pt ≤ L.length) ∧ (-1 ≤ mk ∧ mk ≤ L.length) ∧ xs.length ≤ c ∧ (c : Int) ≤ 9223372036854775807 ∧ L.length + t = xs.length + f ∧
    V w0 w (gJ p (.cells (kL (.slice a xs.length c) f t pt mk) 197 (0, 0)) • je 21 .i32 (.slice a xs.length c) xs • F) := by
  obtain ⟨⟨v, xs, f, t⟩, H⟩ := H.qY
  obtain ⟨⟨h1, h2, h3, h4, h5, h6, h7⟩, H⟩ := H.flat.fact
  have H := H.flat
  obtain ⟨a, c, hv, hc1, hc2, _⟩ := (H.swap.aO).form
  dsimp only at *
  subst hv
  refine ⟨a, c, xs, f, t, h1, h2, h3, h4, h5, h6, h7, hc1, hc2, ?_, H⟩
  rw [h3]; simp; omega
theorem V.yO {v : Value} {xs : List Int} {f t : Nat} (h1 : f ≤ t) (h2 : t ≤ xs.length) (h3 : L = xs.take f ++ xs.drop t) (h4 : L.length ≤ 1024) (h5 : xs.length ≤ 4096) (h6 : 0 ≤ pt ∧ pt ≤ L.length) (h7 : -1 ≤ mk ∧ mk ≤ L.length)
    (H : V w0 w (gJ p (.cells (kL v f t pt mk) 197 (0, 0)) • je 21 .i32 v xs • F)) : V w0 w (jF p L pt mk • F) :=
  V.kT (v, xs, f, t) (V.deep (V.oQ ⟨h1, h2, h3, h4, h5, h6, h7⟩ (V.deep H)))
theorem zx (t : TypeId) {cs : Array Value} {fr : Nat × Nat} {m : Bool} (hb : w.heap[p]? = some (.cells cs t fr)) (h0 : cs[0]? = some (.bool m)) :
    jf prog 131 #[.pointer (some ⟨p, 0, none⟩)] w fun v w' => v = .bool (!m) ∧ w = w' := by
  refine jE func131 ntmps131 ?_
  refine kH O (bI O (aV (kU jX O O) (OB O (fun h1 => ?_))))
  (try simp only [Z] at h1)
  refine bF (bW O (bF (dV O (bF (bM 0 bZ O aT O (bF (eH bJ O hb h0 (bF (aV (jR O) (iH O O (fP O (dL results131 O ?_))))))))))))
  exact ⟨O, O⟩
theorem sH (H : V w0 w (jF p L pt mk • F)) : jf prog 132 #[.pointer (some ⟨p, 0, none⟩)] w fun v w' => v = .int .i64 L.length ∧ zZ w w' := by
 obtain ⟨a, c, xs, f, t, h1, h2, h3, h4, h5, h6, h7, hc1, hc2, hl, H1⟩ := H.buf
 have hb := H1.get.2
 refine jE func132 ntmps132 ?_
 refine kH O (aI (bI O (dX O func131 (zx _ hb O) ?_)))
 rintro _ _ ⟨rfl, rfl⟩
 refine iR (oL (gy (aI ?_)))
 refine uD (n := 16) [0, 1, 2, 3, 4, 5, 6, 7, 8, 9, 10, 11, 12, 13, 14, 15] (fun W => W.heap = w.heap) (by kernel_rfl) (by kernel_rfl) O ?_
 have hS0 : (fun W => W.heap = w.heap) (w.drew) := rfl
 have H3d := H1.drew
 refine fD 0 O hS0 O (iG 1 O hS0 O (dJ 2 O hS0 1 bZ O bD O ?_))
 refine fM 3 O hS0 (fun W hW => fQ ah O (by rw [hW]; exact hb) O) ?_
 refine dS 4 O hS0 (fun _ => jd ah O) (fD 5 O hS0 O (iG 6 O hS0 O (dJ 7 O hS0 3 bZ O aj O ?_)))
 refine fM 8 O hS0 (fun W hW => fQ aA O (by rw [hW]; exact hb) O) ?_
 refine fD 9 O hS0 O (iG 10 O hS0 O (dJ 11 O hS0 2 bZ O aj O ?_))
 refine fM 12 O hS0 (fun W hW => fQ aA O (by rw [hW]; exact hb) O) ?_
 refine dS 13 O hS0 (fun _ => jJ O O (by omega)) (dS 14 O hS0 (fun _ => jJ O O (by omega)) (dS 15 O hS0 (fun _ => aW O) (lJ (aU (iL (dL results132 O ?_))))))
 exact ⟨by congr 1; omega, zZ.refl _ |>.drew⟩
theorem Az (H : V w0 w (jF p L pt mk • F)) : jf prog 127 #[.pointer (some ⟨p, 0, none⟩)] w fun v w' => v = .int .i64 pt ∧ w = w' := by
  obtain ⟨a, c, xs, f, t, h1, h2, h3, h4, h5, h6, h7, hc1, hc2, hl, H1⟩ := H.buf
  have hb := H1.get.2
  refine jE func127 ntmps127 ?_
  refine kH O (aI (bI O (dX O func131 (zx _ hb O) ?_)))
  rintro _ _ ⟨rfl, rfl⟩
  refine iR (oL (gy (bI O (dV O (bM 4 bZ O aj O (eH aA O hb O (fP O (dL results127 O ?_))))))))
  exact ⟨O, O⟩
theorem Ui (H : V w0 w (jF p L pt mk • F)) : jf prog 128 #[.pointer (some ⟨p, 0, none⟩)] w fun v w' => v = .int .i64 mk ∧ w = w' := by
  obtain ⟨a, c, xs, f, t, h1, h2, h3, h4, h5, h6, h7, hc1, hc2, hl, H1⟩ := H.buf
  have hb := H1.get.2
  refine jE func128 ntmps128 ?_
  refine kH O (aI (bI O (dX O func131 (zx _ hb O) ?_)))
  rintro _ _ ⟨rfl, rfl⟩
  refine iR (oL (gy (bI O (dV O (bM 5 bZ O aj O (eH aA O hb O (fP O (dL results128 O ?_))))))))
  exact ⟨O, O⟩
theorem zy (H : V w0 w (jF p L pt mk • F)) : jf prog 126 #[.pointer (some ⟨p, 0, none⟩)] w fun v w' => V w0 w' (je 21 .i32 v L • jF p L pt mk • F) := by
 obtain ⟨a, c, xs, f, t, h1, h2, h3, h4, h5, h6, h7, hc1, hc2, hl, H1⟩ := H.buf
 have hb := H1.get.2
 refine jE func126 ntmps126 ?_
 refine kH O (aI (bI O (dX O func131 (zx _ hb O) ?_)))
 rintro _ _ ⟨rfl, rfl⟩
 refine iR (oL (gy (aI ?_)))
 refine uD (n := 21) [0, 1, 2, 3, 4, 5, 6, 7, 8, 9, 10, 11, 12, 13, 14, 15, 16, 17, 18, 19, 20] (fun W => W.heap[p]? = some (.cells (kL (.slice a xs.length c) f t pt mk) 197 (0, 0))) (by kernel_rfl) (by kernel_rfl) O ?_
 have hS0 : (fun W => W.heap[p]? = some (.cells (kL (.slice a xs.length c) f t pt mk) 197 (0, 0))) (w.drew) := hb
 have H3d := H1.drew
 refine fD 0 O hS0 O (iG 1 O hS0 O (dJ 2 O hS0 1 bZ O bD O (fM 3 O hS0 (fun W hW => fQ ah O hW O) (fD 4 O hS0 O (iG 5 O hS0 O (dJ 6 O hS0 2 bZ O aj O (fM 7 O hS0 (fun W hW => fQ aA O hW O) (dS 8 O hS0 (fun _ => Au ah bP O O O (by omega)) ?_))))))))
 refine fD 9 O hS0 O (iG 10 O hS0 O (dJ 11 O hS0 1 bZ O bD O (fM 12 O hS0 (fun W hW => fQ ah O hW O) (fD 13 O hS0 O (iG 14 O hS0 O (dJ 15 O hS0 3 bZ O aj O (fM 16 O hS0 (fun W hW => fQ aA O hW O) (dS 17 O hS0 (fun _ => Au ah bP O O O (by omega)) ?_))))))))
 refine ny 18 O (ZK (vs := [wV 1 0 f (.slice a xs.length c), wV 1 t xs.length (.slice a xs.length c)]) H3d gQ bD zeroValue22 O O O (by decide) (afl (VF O) (VF O))) ?_
 rintro _ w2 ⟨b2, rfl, H2⟩
 have hS2 : (fun W => W.heap[p]? = some (.cells (kL (.slice a xs.length c) f t pt mk) 197 (0, 0))) w2 := H2.swap.get.2
 refine J6 hS2 ?_
 refine ny 19 O (wM O func172 (GZ (l1 := xs.take f) (l2 := xs.drop t) H2 (fun W HW => gB.upto HW.QO.aO (by omega)) (fun W HW => gB.from HW.QO.aO (by omega)) (by simp; omega))) ?_
 rintro u w3 H3
 have hS3 : (fun W => W.heap[p]? = some (.cells (kL (.slice a xs.length c) f t pt mk) 197 (0, 0))) w3 := H3.QO.get.2
 refine J6 hS3 ?_
 refine dS 20 O hS3 (fun _ => aW O) (lJ (aU (iL (dL results126 O ?_))))
 rw [← h3] at H3
 exact (V.yO h1 h2 h3 h4 h5 h6 h7 H3.swap.right.d3).swap
theorem VG {v : Value} {l : List Int} (H : V w0 w F) (hr : jO w0 F .i32 v l) (hl : l.length ≤ 1024) : jf prog 151 #[v] w fun v' w' => ∃ p, v' = .tuple #[.pointer (some ⟨p, 0, none⟩), .int .i64 0] ∧ V w0 w' (jF p l l.length (-1) • F) := by
 obtain ⟨a, c, rfl, _, _, _⟩ := (hr w H).open
 refine jE func151 ntmps151 ?_
 refine jg (gW O (tX O (bI O (aV (jd ah O) (aV (gK O O) (iR (Yk O (fun h1 => ?_))))))))
 (try simp only [Z] at h1)
 refine gy (bI O (dX O func71 (qy H hr (by omega)) ?_))
 rintro u w1 H1
 obtain ⟨au, cu, hu, _⟩ := (H1.aO).form
 subst hu
 refine bW O (aV (jd ah O) (aV (qx (pl := #[(0, 1), (1, 1), (2, 1), (3, 1), (4, 1), (5, 1)]) (kL (.slice au l.length cu) 0 0 l.length (-1)) bZ zeroValue197 (fun w => by kernel_rfl) O (by kernel_rfl)) (kV (SB H1 O) ?_)))
 rintro _ w2 ⟨b2, rfl, H2⟩
 refine tX O ?_
 have HB : V w0 w2 (gJ b2 (.cells (kL (.slice au l.length cu) 0 0 l.length (-1)) 197 (0, 0)) • je 21 .i32 (.slice au l.length cu) l • F) := H2
 refine aF (jU O O (bW O (aV (jd ah O) (bW O (aV (jd ah O) (dV O (bM 2 bZ O aj O (aQ (lM HB aj O O O (by rw [qO]; decide)) ?_))))))))
 rintro _ w3 HB1
 rw [FI] at HB1
 refine dV O (bM 3 bZ O aj O (aQ (lM HB1 aj O O O (by rw [qO]; decide)) ?_))
 rintro _ w4 HB2
 rw [JG] at HB2
 refine uS O (gW O (fP O (MO results151 O O ?_)))
 exact ⟨_, O, V.yO (f := l.length) (t := l.length) (Nat.le_refl _) (Nat.le_refl _) (by simp) hl (by omega) (by omega) (by omega) HB2⟩
end
def og (L : List Int) (i r : Nat) : List Int := iY (iY (List.replicate (L.length + r + 16) 0) 0 (L.take i)) (i + r + 16) (L.drop i)
theorem Yo {L : List Int} {i r : Nat} (h : i ≤ L.length) : (og L i r).length = L.length + r + 16 := by
  unfold og
  rw [iq, iq] <;> simp [iq] <;> first | omega | (rw [iq] <;> simp <;> omega)
theorem MW {l ys : List Int} {i : Nat} (h : i + ys.length ≤ l.length) : (iY l i ys).take (i + ys.length) = l.take i ++ ys := by
  unfold iY
  rw [List.take_append_of_le_length (by simp; omega), List.take_of_length_le (by simp; omega)]
theorem VH {l ys : List Int} {i j : Nat} (h : i + ys.length ≤ j) (h2 : j ≤ l.length) : (iY l i ys).drop j = l.drop j := by
  unfold iY
  rw [List.drop_append, List.drop_eq_nil_of_le (by simp; omega), List.nil_append, List.drop_drop]
  congr 1
  simp
  omega
theorem OH {l ys : List Int} {i j : Nat} (h : j ≤ i) (h2 : i ≤ l.length) : (iY l i ys).take j = l.take j := by
  unfold iY
  rw [List.append_assoc, List.take_append_of_le_length (by simp; omega), List.take_take, Nat.min_eq_left h]
theorem OI {l ys : List Int} {i : Nat} (h : i + ys.length = l.length) : (iY l i ys).drop i = ys := by
  unfold iY
  rw [List.append_assoc, List.drop_append, List.drop_eq_nil_of_le (by simp; omega), List.nil_append]
  simp [show i - min i l.length = 0 from by omega, show l.length ≤ i + ys.length from by omega]
theorem VI {L : List Int} {i r : Nat} (h : i ≤ L.length) : (og L i r).take i = L.take i := by
  have h1 : (iY (List.replicate (L.length + r + 16) (0 : Int)) 0 (L.take i)).length = L.length + r + 16 := by rw [iq] <;> simp; omega
  unfold og
  rw [OH (by omega) (by rw [h1]; omega)]
  have := MW (l := List.replicate (L.length + r + 16) (0 : Int)) (ys := L.take i) (i := 0) (by simp; omega)
  rw [show 0 + (L.take i).length = i from by simp; omega] at this
  simpa using this
theorem VJ {L : List Int} {i r : Nat} (h : i ≤ L.length) : (og L i r).drop (i + r + 16) = L.drop i := by
  have h1 : (iY (List.replicate (L.length + r + 16) (0 : Int)) 0 (L.take i)).length = L.length + r + 16 := by rw [iq] <;> simp; omega
  exact OI (by rw [h1]; simp; omega)
section
variable {w0 w : World} {F : HP} {p : Nat} {L : List Int} {pt mk : Int}
theorem Uj {i r : Nat} (H : V w0 w (jF p L pt mk • F)) (hi : i ≤ L.length) (hr : r ≤ 1024) :
  jf prog 214 #[.pointer (some ⟨p, 0, none⟩), .int .i64 i, .int .i64 r] w fun _ w' => ∃ v, V w0 w' (gJ p (.cells (kL v i (i + r + 16 : Nat) pt mk) 197 (0, 0)) • je 21 .i32 v (og L i r) • F) := by
 have hL4 : L.length ≤ 1024 := by obtain ⟨a, c, xs, f, t, h1, h2, h3, h4, h5, h6, h7, hc1, hc2, hl, H1⟩ := H.buf; exact h4
 have e1 : ((L.length : Int) + r + 16).toNat = L.length + r + 16 := by omega
 refine EU func214 ntmps214 ?_
 refine bI O (dX O func126 (zy H) ?_)
 rintro u w1 H1
 obtain ⟨au, cu, hu, hcu, al7, _⟩ := (H1.aO).form
 subst hu
 obtain ⟨a, c, xs, f, t, h1, h2, h3, h4, h5, h6, h7, hc1, hc2, hl, HB⟩ := H1.swap.buf
 refine fO O (bI O (bW O (aV (jd ah O) (bW O (aV (fH O O (by omega)) (aV (fH O O (by omega)) (kV (MN HB ah GY O O (by omega) (by omega) (by omega)) ?_)))))))
 rintro v w2 H2
 rw [e1] at H2
 have hm : (List.replicate (L.length + r + 16) (0 : Int)).length = L.length + r + 16 := by simp
 obtain ⟨av, cv, hv, hcv, hcv2, _⟩ := (H2.aO).form
 rw [hm] at hv hcv
 subst hv
 refine dV O (bM 1 bZ O bD O (aQ (lM H2.swap bD O O O (by rw [qO]; decide)) ?_))
 rintro _ w3 H3
 rw [aa3] at H3
 refine uS O (mX O O (bM 2 bZ O aj O (aQ (lM H3 aj O O O (by rw [qO]; decide)) ?_)))
 rintro _ w4 H4
 rw [FI] at H4
 refine uS O (mX O O (bM 1 bZ O bD O (eH ah O H4.get.2 O (aV (jd ah O) (bW O (aV (jd ah O) (bW O (aV (jJ O O (by omega)) (aV (jJ O O (by omega)) (dV O (bM 3 bZ O aj O (aQ (lM H4 aj O O O (by rw [qO]; decide)) ?_))))))))))))
 rintro _ w5 H5
 rw [JG, show (((L.length + r + 16 : Nat) : Int) - ((L.length : Int) - (i : Int))) = ((i + r + 16 : Nat) : Int) from by omega] at H5
 have hb3 := H5.get.2
 refine rW ?_
 refine uD (n := 8) [0, 1, 2, 3, 4, 5, 6, 7] (fun W => W.heap[p]? = some (.cells (kL (.slice av (L.length + r + 16) cv) i (i + r + 16 : Nat) pt mk) 197 (0, 0))) (by kernel_rfl) (by kernel_rfl) O ?_
 have hS0 : (fun W => W.heap[p]? = some (.cells (kL (.slice av (L.length + r + 16) cv) i (i + r + 16 : Nat) pt mk) 197 (0, 0))) (w5.drew) := hb3
 have H4d := H5.drew
 refine fD 0 O hS0 O (iG 1 O hS0 O (dJ 2 O hS0 1 bZ O bD O (fM 3 O hS0 (fun W hW => fQ ah O hW O) (fD 4 O hS0 O (fD 5 O hS0 O (dS 6 O hS0 (fun _ => Au ah bP O O O (by omega)) ?_))))))
 refine ny 7 O (GU (i := 0) (m := L.take i) H4d.swap (gB.upto H4d.r4.aO (by omega)) ah (by kernel_rfl) (by rw [hm, OA]; rfl) O (by simp; omega)) ?_
 rintro _ w6 ⟨rfl, H6⟩
 have hm2 : (iY (List.replicate (L.length + r + 16) (0 : Int)) 0 (L.take i)).length = L.length + r + 16 := by rw [iq] <;> simp; omega
 refine Oy (by kernel_rfl) ?_
 refine lJ (aU ?_)
 refine uD (n := 13) [0, 1, 2, 3, 4, 5, 6, 7, 8, 9, 10, 11, 12] (fun W => W.heap[p]? = some (.cells (kL (.slice av (L.length + r + 16) cv) i (i + r + 16 : Nat) pt mk) 197 (0, 0))) (by kernel_rfl) (by kernel_rfl) O ?_
 have hS0 : (fun W => W.heap[p]? = some (.cells (kL (.slice av (L.length + r + 16) cv) i (i + r + 16 : Nat) pt mk) 197 (0, 0))) (w6.drew) := H6.swap.get.2
 have H5d := H6.drew
 refine fD 0 O hS0 O (iG 1 O hS0 O (dJ 2 O hS0 1 bZ O bD O (fM 3 O hS0 (fun W hW => fQ ah O hW O) (fD 4 O hS0 O (iG 5 O hS0 O (dJ 6 O hS0 3 bZ O aj O (fM 7 O hS0 (fun W hW => fQ aA O hW O) (dS 8 O hS0 (fun _ => Au ah bP O O O (by omega)) ?_))))))))
 refine fD 9 O hS0 O (fD 10 O hS0 O (dS 11 O hS0 (fun _ => Au ah bP O O O (by omega)) ?_))
 refine ny 12 O (GU (i := i + r + 16) (m := L.drop i) H5d (gB.from H5d.r4.aO (by omega)) ah (by kernel_rfl) (by rw [hm2]; rfl) O (by rw [hm2]; simp; omega)) ?_
 rintro _ w7 ⟨rfl, H7⟩
 refine Oy (by kernel_rfl) ?_
 refine lJ (oU (.inr O) results214 ?_)
 exact ⟨_, H7.swap.QO.right.QO.right⟩
theorem uV (H : V w0 w (jF p L pt mk • F)) : jf prog 131 #[.pointer (some ⟨p, 0, none⟩)] w fun v w' => v = .bool false ∧ w = w' := by
  obtain ⟨a, c, xs, f, t, h1, h2, h3, h4, h5, h6, h7, hc1, hc2, hl, H1⟩ := H.buf
  exact zx _ H1.get.2 rfl
def iP (pt i j n : Int) : Int := if j < pt then pt + (n - (j - i)) else if i ≤ pt then i + n else pt
def iV (mk i j n : Int) : Int := if j < mk then mk + (n - (j - i)) else if i < mk then i else mk
def lX (at_ : Int) (d i : Value) : Array Value := #[.int .i64 at_, d, i]
theorem uX {at_ : Int} {d i : Value} (hd : d.oneCell' = true) (hi : i.oneCell' = true) : ∀ v ∈ (lX at_ d i).toList, v.oneCell' = true := by
  intro v hv
  simp [lX] at hv
  rcases hv with rfl | rfl | rfl <;> first | rfl | assumption
variable {v : Value} {l : List Int} {i j : Int}
theorem NI (H : V w0 w (jF p L pt mk • F)) (hr : jO w0 F .i32 v l) (hb : i < 0 ∨ L.length < i ∨ j < i ∨ L.length < j) :
  jf prog 202 #[.pointer (some ⟨p, 0, none⟩), .int .i64 i, .int .i64 j, v] w fun v' w' => v' = .tuple #[.agg (lX 0 (.slice none 0 0) (.slice none 0 0)), .int .i64 70] ∧ V w0 w' (jF p L pt mk • F) := by
 obtain ⟨a, c, rfl, _, _, _⟩ := (hr w H.right).open
 refine Ug func202 ntmps202 ?_
 refine jg (kV (Ea H fJ) ?_)
 rintro _ w1 ⟨b1, rfl, H1⟩
 refine fO O (bI O (dX O func132 (sH H1.right) ?_))
 rintro _ w2 ⟨rfl, hD⟩
 have HL := H1.zh hD
 refine tX O (bf (bI O (dX O func131 (uV HL.right) ?_)))
 rintro _ _ ⟨rfl, rfl⟩
 refine fO O (bg O (fun h1 => ?_) (fun h1 => ?_))
 ·(try simp only [Z] at h1)
  exfalso; first | contradiction | omega
 ·(try simp only [Z] at h1)
  refine bI O (aV (gG O O) (jY O (fun h2 => ?_) (fun h2 => ?_)))
  ·(try simp only [Z] at h2)
   refine bK (bK (bK (jQ O O (bW O (bK (bK (bK (jQ O O (bW O (bK (bK (bK (jQ O O (fO O (ET (jg (aV (qx (pl := #[(0, 1), (1, 1), (2, 1)]) (lX 0 (.slice none 0 0) (.slice none 0 0)) bn fJ (fun w => by kernel_rfl) O (by kernel_rfl)) (aQ (jq (cs := lX 0 (.slice none 0 0) (.slice none 0 0)) HL dB O O O O (uX O O)) ?_))))))))))))))))))
   rintro _ w5 H5
   refine fP O (aN (aC ?_))
   refine sF (.inl O) mg O O bn O (by rw [xQ]; rfl) H5.get.2 ?_
   exact ⟨O, H5.right⟩
  ·(try simp only [Z] at h2)
   refine bF (bW O (bF (bW O (bF (aV (gK O O) (iH O O (jY O (fun h3 => ?_) (fun h3 => ?_))))))))
   ·(try simp only [Z] at h3)
    refine bK (bK (bK (jQ O O (bW O (bK (bK (bK (jQ O O (fO O (ET (jg (aV (qx (pl := #[(0, 1), (1, 1), (2, 1)]) (lX 0 (.slice none 0 0) (.slice none 0 0)) bn fJ (fun w => by kernel_rfl) O (by kernel_rfl)) (aQ (jq (cs := lX 0 (.slice none 0 0) (.slice none 0 0)) HL dB O O O O (uX O O)) ?_)))))))))))))
    rintro _ w6 H6
    refine fP O (aN (aC ?_))
    refine sF (.inl O) mg O O bn O (by rw [xQ]; rfl) H6.get.2 ?_
    exact ⟨O, H6.right⟩
   ·(try simp only [Z] at h3)
    refine bF (bW O (bF (bW O (bF (aV (gG O O) (iH O O (jY O (fun h4 => ?_) (fun h4 => ?_))))))))
    ·(try simp only [Z] at h4)
     refine bK (bK (bK (jQ O O (fO O (ET (jg (aV (qx (pl := #[(0, 1), (1, 1), (2, 1)]) (lX 0 (.slice none 0 0) (.slice none 0 0)) bn fJ (fun w => by kernel_rfl) O (by kernel_rfl)) (aQ (jq (cs := lX 0 (.slice none 0 0) (.slice none 0 0)) HL dB O O O O (uX O O)) ?_))))))))
     rintro _ w7 H7
     refine fP O (aN (aC ?_))
     refine sF (.inl O) mg O O bn O (by rw [xQ]; rfl) H7.get.2 ?_
     exact ⟨O, H7.right⟩
    ·(try simp only [Z] at h4)
     refine bF (bW O (bF (bW O (bF (aV (gK O O) (iH O O (fO O (wcA O (fun h5 => ?_)))))))))
     (try simp only [Z] at h5)
     refine jg (aV (qx (pl := #[(0, 1), (1, 1), (2, 1)]) (lX 0 (.slice none 0 0) (.slice none 0 0)) bn fJ (fun w => by kernel_rfl) O (by kernel_rfl)) (aQ (jq (cs := lX 0 (.slice none 0 0) (.slice none 0 0)) HL dB O O O O (uX O O)) ?_))
     rintro _ w8 H8
     refine fP O (aN (aC ?_))
     refine sF (.inl O) mg O O bn O (by rw [xQ]; rfl) H8.get.2 ?_
     exact ⟨O, H8.right⟩
theorem LQ (H : V w0 w (jF p L pt mk • F)) (hr : jO w0 F .i32 v l) (hb : 0 ≤ i ∧ i ≤ j ∧ j ≤ L.length) (hl : 1024 < L.length - (j - i) + l.length) :
  jf prog 202 #[.pointer (some ⟨p, 0, none⟩), .int .i64 i, .int .i64 j, v] w fun v' w' => v' = .tuple #[.agg (lX 0 (.slice none 0 0) (.slice none 0 0)), .int .i64 3] ∧ V w0 w' (jF p L pt mk • F) := by
 obtain ⟨a, c, rfl, _, _, _⟩ := (hr w H.right).open
 have hL4 : L.length ≤ 1024 := by obtain ⟨a, c, xs, f, t, h1, h2, h3, h4, h5, h6, h7, hc1, hc2, hl, H1⟩ := H.buf; exact h4
 refine Ug func202 ntmps202 ?_
 refine jg (kV (Ea H fJ) ?_)
 rintro _ w1 ⟨b1, rfl, H1⟩
 refine fO O (bI O (dX O func132 (sH H1.right) ?_))
 rintro _ w2 ⟨rfl, hD⟩
 have HL := H1.zh hD
 refine tX O (bf (bI O (dX O func131 (uV HL.right) ?_)))
 rintro _ _ ⟨rfl, rfl⟩
 refine fO O (bg O (fun h1 => ?_) (fun h1 => ?_))
 ·(try simp only [Z] at h1)
  exfalso; first | contradiction | omega
 ·(try simp only [Z] at h1)
  refine bI O (aV (gG O O) (jY O (fun h2 => ?_) (fun h2 => ?_)))
  ·(try simp only [Z] at h2)
   exfalso; first | contradiction | omega
  ·(try simp only [Z] at h2)
   refine bF (bW O (bF (bW O (bF (aV (gK O O) (iH O O (jY O (fun h3 => ?_) (fun h3 => ?_))))))))
   ·(try simp only [Z] at h3)
    exfalso; first | contradiction | omega
   ·(try simp only [Z] at h3)
    refine bF (bW O (bF (bW O (bF (aV (gG O O) (iH O O (jY O (fun h4 => ?_) (fun h4 => ?_))))))))
    ·(try simp only [Z] at h4)
     exfalso; first | contradiction | omega
    ·(try simp only [Z] at h4)
     refine bF (bW O (bF (bW O (bF (aV (gK O O) (iH O O (fO O (Yk O (fun h5 => ?_)))))))))
     (try simp only [Z] at h5)
     refine bI O (aV (jd ah O) (jU O O (bW O (aV (jJ O O (by omega)) (aV (jJ O O (by omega)) (aV (jJ O O (by omega)) (aV (gK O O) (fO O (wcA O (fun h6 => ?_))))))))))
     (try simp only [Z] at h6)
     refine jg (aV (qx (pl := #[(0, 1), (1, 1), (2, 1)]) (lX 0 (.slice none 0 0) (.slice none 0 0)) bn fJ (fun w => by kernel_rfl) O (by kernel_rfl)) (aQ (jq (cs := lX 0 (.slice none 0 0) (.slice none 0 0)) HL dB O O O O (uX O O)) ?_))
     rintro _ w8 H8
     refine fP O (aN (aC ?_))
     refine sF (.inl O) mg O O bn O (by rw [xQ]; rfl) H8.get.2 ?_
     exact ⟨O, H8.right⟩
end
section
variable {w0 w : World} {F : HP} {p : Nat} {L : List Int} {pt mk : Int} {v : Value} {l : List Int} {i j : Int}
theorem OJ {i j : Nat} (H : V w0 w (jF p L pt mk • F)) (hr : jO w0 F .i32 v l) (hb : i ≤ j ∧ j ≤ L.length) (hl : (L.length : Int) - ((j : Int) - i) + l.length ≤ 1024) :
    jf prog 202 #[.pointer (some ⟨p, 0, none⟩), .int .i64 i, .int .i64 j, v] w fun v' w' => ∃ d s, v' = .tuple #[.agg (lX i d s), .int .i64 0] ∧
      V w0 w' (je 21 .i32 d ((L.drop i).take (j - i)) • je 21 .i32 s l • jF p (L.take i ++ l ++ L.drop j) (iP pt i j l.length) (iV mk i j l.length) • F) := by
  obtain ⟨a, c, rfl, hac, al8, _⟩ := (hr w H.right).open
  obtain ⟨hL4, hpt, hmk⟩ : L.length ≤ 1024 ∧ (0 ≤ pt ∧ pt ≤ L.length) ∧ (-1 ≤ mk ∧ mk ≤ L.length) := by obtain ⟨a, c, xs, f, t, h1, h2, h3, h4, h5, h6, h7, hc1, hc2, hl, H1⟩ := H.buf; exact ⟨h4, h6, h7⟩
  have hg1 := Yo (L := L) (i := i) (r := l.length) (by omega)
  have hg2 := VI (L := L) (i := i) (r := l.length) (by omega)
  have hg3 := VJ (L := L) (i := i) (r := l.length) (by omega)
  have hL' : L.take i ++ l ++ L.drop j = (iY (og L i l.length) i l).take (i + l.length) ++ (iY (og L i l.length) i l).drop (i + l.length + 16 + (j - i)) := by
    rw [MW (by omega), VH (by omega) (by omega), hg2]
    congr 1
    rw [← List.drop_drop, hg3, List.drop_drop]
    congr 1; omega
  have hlen' : (L.take i ++ l ++ L.drop j).length = L.length - (j - i) + l.length := by simp; omega
  refine Ug func202 ntmps202 ?_
  refine jg (kV (Ea H fJ) ?_)
  rintro _ w1 ⟨b1, rfl, H1⟩
  refine fO O (bI O (dX O func132 (sH H1.right) ?_))
  rintro _ w2 ⟨rfl, hD⟩
  have HL := H1.zh hD
  refine tX O (bf (bI O (dX O func131 (uV HL.right) ?_)))
  rintro _ _ ⟨rfl, rfl⟩
  refine fO O (bg O (fun h1 => ?_) (fun h1 => ?_))
  · (try simp only [Z] at h1)
    exfalso; first | contradiction | omega
  · (try simp only [Z] at h1)
    refine bI O (aV (gG O O) (jY O (fun h2 => ?_) (fun h2 => ?_)))
    · (try simp only [Z] at h2)
      exfalso; first | contradiction | omega
    · (try simp only [Z] at h2)
      refine bF (bW O (bF (bW O (bF (aV (gK O O) (iH O O (jY O (fun h3 => ?_) (fun h3 => ?_))))))))
      · (try simp only [Z] at h3)
        exfalso; first | contradiction | omega
      · (try simp only [Z] at h3)
        refine bF (bW O (bF (bW O (bF (aV (gG O O) (iH O O (jY O (fun h4 => ?_) (fun h4 => ?_))))))))
        · (try simp only [Z] at h4)
          exfalso; first | contradiction | omega
        · (try simp only [Z] at h4)
          refine bF (bW O (bF (bW O (bF (aV (gK O O) (iH O O (fO O (Yk O (fun h5 => ?_)))))))))
          (try simp only [Z] at h5)
          refine bI O (aV (jd ah O) (jU O O (bW O (aV (jJ O O (by omega)) (aV (jJ O O (by omega)) (aV (jJ O O (by omega)) (aV (gK O O) (fO O (Yk O (fun h6 => ?_))))))))))
          (try simp only [Z] at h6)
          refine bU (aH (aU (bI O (bW O (dX O func126 (zy HL.swap) ?_)))))
          rintro u w8 H8
          obtain ⟨au, cu, hu, _⟩ := (H8.aO).form
          subst hu
          refine jU O O (aV (Au ah bP O O O (by omega)) ?_)
          refine dX O func71 (qy H8 (fun W HW => gB.cut HW.aO (i := i) (j := j) (by omega) (by omega)) (by simp; omega)) ?_
          rintro d w9 H9
          have HC := H9.swap.right
          obtain ⟨ad, cd, hd, _⟩ := (HC.aO).form
          subst hd
          refine bW O (dX O func71 (qy HC hr.under.under.under (by omega)) ?_)
          rintro s w10 pG
          obtain ⟨ai, ci, hs, _⟩ := (pG.aO).form
          subst hs
          refine aV (qx (pl := #[(0, 1), (1, 1), (2, 1)]) (lX i (.slice ad ((L.drop i).take (j - i)).length cd) (.slice ai l.length ci)) bn fJ (fun w => by kernel_rfl) O (by kernel_rfl)) (kV (Ea pG fJ) ?_)
          rintro _ FK ⟨b11, rfl, ru⟩
          refine aQ (jq (cs := lX i (.slice ad ((L.drop i).take (j - i)).length cd) (.slice ai l.length ci)) ru dB O O O O (uX O O)) ?_
          rintro _ w12 wQ
          refine uS O (jU O O (aV (jd ah O) (dX O func214 (Uj wQ.r4 (by omega) (by omega)) ?_)))
          rintro _ OL ⟨x, wB⟩
          obtain ⟨ax, cx, hx, _⟩ := (wB.swap.aO).form
          subst hx
          refine uS O (dV O (bM 3 bZ O aj O (eH aA O wB.get.2 O (jU O O (aV (jJ O O (by omega)) (aV (fH O O (by omega)) (dV O (bM 3 bZ O aj O (aQ (lM wB aj O O O (by rw [qO]; decide)) ?_)))))))))
          rintro _ OG rU
          rw [JG] at rU
          have akh := rU.get.2
          refine rW ?_
          refine uD (n := 11) [0, 1, 2, 3, 4, 5, 6, 7, 8, 9, 10] (fun W => W.heap[p]? = some (.cells (kL (.slice ax (og L i l.length).length cx) i ((i + l.length + 16 : Nat) + ((j : Int) - i)) pt mk) 197 (0, 0))) (by kernel_rfl) (by kernel_rfl) O ?_
          have hS0 : (fun W => W.heap[p]? = some (.cells (kL (.slice ax (og L i l.length).length cx) i ((i + l.length + 16 : Nat) + ((j : Int) - i)) pt mk) 197 (0, 0))) (OG.drew) := akh
          have acy := rU.drew
          refine fD 0 O hS0 O (iG 1 O hS0 O (dJ 2 O hS0 1 bZ O bD O (fM 3 O hS0 (fun W hW => fQ ah O hW O) (fD 4 O hS0 O (iG 5 O hS0 O (dJ 6 O hS0 2 bZ O aj O (fM 7 O hS0 (fun W hW => fQ aA O hW O) (dS 8 O hS0 (fun _ => Au ah bP O O O (by omega)) ?_))))))))
          refine fD 9 O hS0 O (ny 10 O (GU (i := i) (m := l) acy.swap (hr _ acy.right.right.right.right.right.right) ah (by kernel_rfl) O O (by omega)) ?_)
          rintro _ OM ⟨rfl, zV⟩
          have HS := zV.swap
          refine Oy (by kernel_rfl) ?_
          refine lJ (aU (bI O (dV O (bM 2 bZ O aj O (eH aA O HS.get.2 O (bW O (aV (jd ah O) (aV (fH O O (by omega)) (dV O (bM 2 bZ O aj O (aQ (lM HS aj O O O (by rw [qO]; decide)) ?_)))))))))))
          rintro _ w16 uT
          rw [FI] at uT
          refine rW (bf (bI O (dV O (bM 4 bZ O aj O (eH aA O uT.get.2 O (bW O (aV (gK O O) (fO O (bg O (fun h7 => ?_) (fun h7 => ?_))))))))))
          · (try simp only [Z] at h7)
            refine aF (mX O O (bM 4 bZ O aj O (eH aA O uT.get.2 O (bW O (aV (jd ah O) (jU O O (aV (jJ O O (by omega)) (aV (jJ O O (by omega)) (aV (fH O O (by omega)) (dV O (bM 4 bZ O aj O (aQ (lM uT aj O O O (by rw [qO]; decide)) ?_))))))))))))
            rintro _ Yp BX
            rw [EC] at BX
            refine bT (aH (aU (aI (bf (bI O (dV O (bM 5 bZ O aj O (eH aA O BX.get.2 O (bW O (aV (gK O O) (fO O (bg O (fun h8 => ?_) (fun h8 => ?_)))))))))))))
            · (try simp only [Z] at h8)
              refine aF (mX O O (bM 5 bZ O aj O (eH aA O BX.get.2 O (bW O (aV (jd ah O) (jU O O (aV (jJ O O (by omega)) (aV (jJ O O (by omega)) (aV (fH O O (by omega)) (dV O (bM 5 bZ O aj O (aQ (lM BX aj O O O (by rw [qO]; decide)) ?_))))))))))))
              rintro _ ZO EW
              rw [xA] at EW
              refine bT (aH (aU (aI ?_)))
              have wP := EW.QO
              refine aF (aV (dH bn O dB O O wP.get.2) (aQ (jq (cs := lX i (.slice ad ((L.drop i).take (j - i)).length cd) (.slice ai l.length ci)) wP.r6 dB O O O O (uX O O)) ?_))
              rintro _ w19 EP
              refine fP O ?_
              refine sF (.inl O) mg O O bn O (by rw [xQ]; rfl) EP.get.2 ?_
              refine ⟨_, _, O, ?_⟩
              first
                | rw [show iP pt i j l.length = pt + ((l.length : Int) - ((j : Int) - i)) from by unfold iP; rw [if_pos (by omega)]]
                | rw [show iP pt i j l.length = (i : Int) + l.length from by unfold iP; rw [if_neg (by omega), if_pos (by omega)]]
                | rw [show iP pt i j l.length = pt from by unfold iP; rw [if_neg (by omega), if_neg (by omega)]]
              first
                | rw [show iV mk i j l.length = mk + ((l.length : Int) - ((j : Int) - i)) from by unfold iV; rw [if_pos (by omega)]]
                | rw [show iV mk i j l.length = (i : Int) from by unfold iV; rw [if_neg (by omega), if_pos (by omega)]]
                | rw [show iV mk i j l.length = mk from by unfold iV; rw [if_neg (by omega), if_neg (by omega)]]
              refine (V.yO (f := i + l.length) (t := i + l.length + 16 + (j - i)) (v := .slice ax (og L i l.length).length cx) (xs := iY (og L i l.length) i l) (by omega) (by rw [iq (by omega)]; omega) hL' (by omega) (by rw [iq (by omega)]; omega) (by omega) (by omega) ?_).d3.swap
              rw [show ((i + l.length : Nat) : Int) = (i : Int) + l.length from by omega, show ((i + l.length + 16 + (j - i) : Nat) : Int) = ((i + l.length + 16 : Nat) : Int) + ((j : Int) - i) from by omega]
              exact EP.right.right
            · (try simp only [Z] at h8)
              refine bI O (dV O (bM 5 bZ O aj O (eH aA O BX.get.2 O (bW O (aV (gK O O) (fO O (bg O (fun h9 => ?_) (fun h9 => ?_))))))))
              · (try simp only [Z] at h9)
                refine aF (jU O O (dV O (bM 5 bZ O aj O (aQ (lM BX aj O O O (by rw [qO]; decide)) ?_))))
                rintro _ ZP BL
                rw [xA] at BL
                refine bT (aH (aU (aI ?_)))
                have wP := BL.QO
                refine aF (aV (dH bn O dB O O wP.get.2) (aQ (jq (cs := lX i (.slice ad ((L.drop i).take (j - i)).length cd) (.slice ai l.length ci)) wP.r6 dB O O O O (uX O O)) ?_))
                rintro _ w21 wP
                refine fP O ?_
                refine sF (.inl O) mg O O bn O (by rw [xQ]; rfl) wP.get.2 ?_
                refine ⟨_, _, O, ?_⟩
                first
                  | rw [show iP pt i j l.length = pt + ((l.length : Int) - ((j : Int) - i)) from by unfold iP; rw [if_pos (by omega)]]
                  | rw [show iP pt i j l.length = (i : Int) + l.length from by unfold iP; rw [if_neg (by omega), if_pos (by omega)]]
                  | rw [show iP pt i j l.length = pt from by unfold iP; rw [if_neg (by omega), if_neg (by omega)]]
                first
                  | rw [show iV mk i j l.length = mk + ((l.length : Int) - ((j : Int) - i)) from by unfold iV; rw [if_pos (by omega)]]
                  | rw [show iV mk i j l.length = (i : Int) from by unfold iV; rw [if_neg (by omega), if_pos (by omega)]]
                  | rw [show iV mk i j l.length = mk from by unfold iV; rw [if_neg (by omega), if_neg (by omega)]]
                refine (V.yO (f := i + l.length) (t := i + l.length + 16 + (j - i)) (v := .slice ax (og L i l.length).length cx) (xs := iY (og L i l.length) i l) (by omega) (by rw [iq (by omega)]; omega) hL' (by omega) (by rw [iq (by omega)]; omega) (by omega) (by omega) ?_).d3.swap
                rw [show ((i + l.length : Nat) : Int) = (i : Int) + l.length from by omega, show ((i + l.length + 16 + (j - i) : Nat) : Int) = ((i + l.length + 16 : Nat) : Int) + ((j : Int) - i) from by omega]
                exact wP.right.right
              · (try simp only [Z] at h9)
                refine bU (aH (aU (aI ?_)))
                have wP := BX.QO
                refine aF (aV (dH bn O dB O O wP.get.2) (aQ (jq (cs := lX i (.slice ad ((L.drop i).take (j - i)).length cd) (.slice ai l.length ci)) wP.r6 dB O O O O (uX O O)) ?_))
                rintro _ w22 Jh
                refine fP O ?_
                refine sF (.inl O) mg O O bn O (by rw [xQ]; rfl) Jh.get.2 ?_
                refine ⟨_, _, O, ?_⟩
                first
                  | rw [show iP pt i j l.length = pt + ((l.length : Int) - ((j : Int) - i)) from by unfold iP; rw [if_pos (by omega)]]
                  | rw [show iP pt i j l.length = (i : Int) + l.length from by unfold iP; rw [if_neg (by omega), if_pos (by omega)]]
                  | rw [show iP pt i j l.length = pt from by unfold iP; rw [if_neg (by omega), if_neg (by omega)]]
                first
                  | rw [show iV mk i j l.length = mk + ((l.length : Int) - ((j : Int) - i)) from by unfold iV; rw [if_pos (by omega)]]
                  | rw [show iV mk i j l.length = (i : Int) from by unfold iV; rw [if_neg (by omega), if_pos (by omega)]]
                  | rw [show iV mk i j l.length = mk from by unfold iV; rw [if_neg (by omega), if_neg (by omega)]]
                refine (V.yO (f := i + l.length) (t := i + l.length + 16 + (j - i)) (v := .slice ax (og L i l.length).length cx) (xs := iY (og L i l.length) i l) (by omega) (by rw [iq (by omega)]; omega) hL' (by omega) (by rw [iq (by omega)]; omega) (by omega) (by omega) ?_).d3.swap
                rw [show ((i + l.length : Nat) : Int) = (i : Int) + l.length from by omega, show ((i + l.length + 16 + (j - i) : Nat) : Int) = ((i + l.length + 16 : Nat) : Int) + ((j : Int) - i) from by omega]
                exact Jh.right.right
          · (try simp only [Z] at h7)
            refine bI O (dV O (bM 4 bZ O aj O (eH aA O uT.get.2 O (bW O (aV (mJ O O) (fO O (bg O (fun h10 => ?_) (fun h10 => ?_))))))))
            · (try simp only [Z] at h10)
              refine aF (jU O O (bW O (aV (jd ah O) (aV (fH O O (by omega)) (dV O (bM 4 bZ O aj O (aQ (lM uT aj O O O (by rw [qO]; decide)) ?_)))))))
              rintro _ w23 AQ
              rw [EC] at AQ
              refine bT (aH (aU (aI (bf (bI O (dV O (bM 5 bZ O aj O (eH aA O AQ.get.2 O (bW O (aV (gK O O) (fO O (bg O (fun h11 => ?_) (fun h11 => ?_)))))))))))))
              · (try simp only [Z] at h11)
                refine aF (mX O O (bM 5 bZ O aj O (eH aA O AQ.get.2 O (bW O (aV (jd ah O) (jU O O (aV (jJ O O (by omega)) (aV (jJ O O (by omega)) (aV (fH O O (by omega)) (dV O (bM 5 bZ O aj O (aQ (lM AQ aj O O O (by rw [qO]; decide)) ?_))))))))))))
                rintro _ w24 Kq
                rw [xA] at Kq
                refine bT (aH (aU (aI ?_)))
                have wP := Kq.QO
                refine aF (aV (dH bn O dB O O wP.get.2) (aQ (jq (cs := lX i (.slice ad ((L.drop i).take (j - i)).length cd) (.slice ai l.length ci)) wP.r6 dB O O O O (uX O O)) ?_))
                rintro _ w25 LU
                refine fP O ?_
                refine sF (.inl O) mg O O bn O (by rw [xQ]; rfl) LU.get.2 ?_
                refine ⟨_, _, O, ?_⟩
                first
                  | rw [show iP pt i j l.length = pt + ((l.length : Int) - ((j : Int) - i)) from by unfold iP; rw [if_pos (by omega)]]
                  | rw [show iP pt i j l.length = (i : Int) + l.length from by unfold iP; rw [if_neg (by omega), if_pos (by omega)]]
                  | rw [show iP pt i j l.length = pt from by unfold iP; rw [if_neg (by omega), if_neg (by omega)]]
                first
                  | rw [show iV mk i j l.length = mk + ((l.length : Int) - ((j : Int) - i)) from by unfold iV; rw [if_pos (by omega)]]
                  | rw [show iV mk i j l.length = (i : Int) from by unfold iV; rw [if_neg (by omega), if_pos (by omega)]]
                  | rw [show iV mk i j l.length = mk from by unfold iV; rw [if_neg (by omega), if_neg (by omega)]]
                refine (V.yO (f := i + l.length) (t := i + l.length + 16 + (j - i)) (v := .slice ax (og L i l.length).length cx) (xs := iY (og L i l.length) i l) (by omega) (by rw [iq (by omega)]; omega) hL' (by omega) (by rw [iq (by omega)]; omega) (by omega) (by omega) ?_).d3.swap
                rw [show ((i + l.length : Nat) : Int) = (i : Int) + l.length from by omega, show ((i + l.length + 16 + (j - i) : Nat) : Int) = ((i + l.length + 16 : Nat) : Int) + ((j : Int) - i) from by omega]
                exact LU.right.right
              · (try simp only [Z] at h11)
                refine bI O (dV O (bM 5 bZ O aj O (eH aA O AQ.get.2 O (bW O (aV (gK O O) (fO O (bg O (fun h12 => ?_) (fun h12 => ?_))))))))
                · (try simp only [Z] at h12)
                  refine aF (jU O O (dV O (bM 5 bZ O aj O (aQ (lM AQ aj O O O (by rw [qO]; decide)) ?_))))
                  rintro _ w26 QS
                  rw [xA] at QS
                  refine bT (aH (aU (aI ?_)))
                  have wP := QS.QO
                  refine aF (aV (dH bn O dB O O wP.get.2) (aQ (jq (cs := lX i (.slice ad ((L.drop i).take (j - i)).length cd) (.slice ai l.length ci)) wP.r6 dB O O O O (uX O O)) ?_))
                  rintro _ w27 LV
                  refine fP O ?_
                  refine sF (.inl O) mg O O bn O (by rw [xQ]; rfl) LV.get.2 ?_
                  refine ⟨_, _, O, ?_⟩
                  first
                    | rw [show iP pt i j l.length = pt + ((l.length : Int) - ((j : Int) - i)) from by unfold iP; rw [if_pos (by omega)]]
                    | rw [show iP pt i j l.length = (i : Int) + l.length from by unfold iP; rw [if_neg (by omega), if_pos (by omega)]]
                    | rw [show iP pt i j l.length = pt from by unfold iP; rw [if_neg (by omega), if_neg (by omega)]]
                  first
                    | rw [show iV mk i j l.length = mk + ((l.length : Int) - ((j : Int) - i)) from by unfold iV; rw [if_pos (by omega)]]
                    | rw [show iV mk i j l.length = (i : Int) from by unfold iV; rw [if_neg (by omega), if_pos (by omega)]]
                    | rw [show iV mk i j l.length = mk from by unfold iV; rw [if_neg (by omega), if_neg (by omega)]]
                  refine (V.yO (f := i + l.length) (t := i + l.length + 16 + (j - i)) (v := .slice ax (og L i l.length).length cx) (xs := iY (og L i l.length) i l) (by omega) (by rw [iq (by omega)]; omega) hL' (by omega) (by rw [iq (by omega)]; omega) (by omega) (by omega) ?_).d3.swap
                  rw [show ((i + l.length : Nat) : Int) = (i : Int) + l.length from by omega, show ((i + l.length + 16 + (j - i) : Nat) : Int) = ((i + l.length + 16 : Nat) : Int) + ((j : Int) - i) from by omega]
                  exact LV.right.right
                · (try simp only [Z] at h12)
                  refine bU (aH (aU (aI ?_)))
                  have wP := AQ.QO
                  refine aF (aV (dH bn O dB O O wP.get.2) (aQ (jq (cs := lX i (.slice ad ((L.drop i).take (j - i)).length cd) (.slice ai l.length ci)) wP.r6 dB O O O O (uX O O)) ?_))
                  rintro _ w28 H28
                  refine fP O ?_
                  refine sF (.inl O) mg O O bn O (by rw [xQ]; rfl) H28.get.2 ?_
                  refine ⟨_, _, O, ?_⟩
                  first
                    | rw [show iP pt i j l.length = pt + ((l.length : Int) - ((j : Int) - i)) from by unfold iP; rw [if_pos (by omega)]]
                    | rw [show iP pt i j l.length = (i : Int) + l.length from by unfold iP; rw [if_neg (by omega), if_pos (by omega)]]
                    | rw [show iP pt i j l.length = pt from by unfold iP; rw [if_neg (by omega), if_neg (by omega)]]
                  first
                    | rw [show iV mk i j l.length = mk + ((l.length : Int) - ((j : Int) - i)) from by unfold iV; rw [if_pos (by omega)]]
                    | rw [show iV mk i j l.length = (i : Int) from by unfold iV; rw [if_neg (by omega), if_pos (by omega)]]
                    | rw [show iV mk i j l.length = mk from by unfold iV; rw [if_neg (by omega), if_neg (by omega)]]
                  refine (V.yO (f := i + l.length) (t := i + l.length + 16 + (j - i)) (v := .slice ax (og L i l.length).length cx) (xs := iY (og L i l.length) i l) (by omega) (by rw [iq (by omega)]; omega) hL' (by omega) (by rw [iq (by omega)]; omega) (by omega) (by omega) ?_).d3.swap
                  rw [show ((i + l.length : Nat) : Int) = (i : Int) + l.length from by omega, show ((i + l.length + 16 + (j - i) : Nat) : Int) = ((i + l.length + 16 : Nat) : Int) + ((j : Int) - i) from by omega]
                  exact H28.right.right
            · (try simp only [Z] at h10)
              refine bU (aH (aU (aI (bf (bI O (dV O (bM 5 bZ O aj O (eH aA O uT.get.2 O (bW O (aV (gK O O) (fO O (bg O (fun h13 => ?_) (fun h13 => ?_)))))))))))))
              · (try simp only [Z] at h13)
                refine aF (mX O O (bM 5 bZ O aj O (eH aA O uT.get.2 O (bW O (aV (jd ah O) (jU O O (aV (jJ O O (by omega)) (aV (jJ O O (by omega)) (aV (fH O O (by omega)) (dV O (bM 5 bZ O aj O (aQ (lM uT aj O O O (by rw [qO]; decide)) ?_))))))))))))
                rintro _ w29 Yq
                rw [xA] at Yq
                refine bT (aH (aU (aI ?_)))
                have wP := Yq.QO
                refine aF (aV (dH bn O dB O O wP.get.2) (aQ (jq (cs := lX i (.slice ad ((L.drop i).take (j - i)).length cd) (.slice ai l.length ci)) wP.r6 dB O O O O (uX O O)) ?_))
                rintro _ w30 Vq
                refine fP O ?_
                refine sF (.inl O) mg O O bn O (by rw [xQ]; rfl) Vq.get.2 ?_
                refine ⟨_, _, O, ?_⟩
                first
                  | rw [show iP pt i j l.length = pt + ((l.length : Int) - ((j : Int) - i)) from by unfold iP; rw [if_pos (by omega)]]
                  | rw [show iP pt i j l.length = (i : Int) + l.length from by unfold iP; rw [if_neg (by omega), if_pos (by omega)]]
                  | rw [show iP pt i j l.length = pt from by unfold iP; rw [if_neg (by omega), if_neg (by omega)]]
                first
                  | rw [show iV mk i j l.length = mk + ((l.length : Int) - ((j : Int) - i)) from by unfold iV; rw [if_pos (by omega)]]
                  | rw [show iV mk i j l.length = (i : Int) from by unfold iV; rw [if_neg (by omega), if_pos (by omega)]]
                  | rw [show iV mk i j l.length = mk from by unfold iV; rw [if_neg (by omega), if_neg (by omega)]]
                refine (V.yO (f := i + l.length) (t := i + l.length + 16 + (j - i)) (v := .slice ax (og L i l.length).length cx) (xs := iY (og L i l.length) i l) (by omega) (by rw [iq (by omega)]; omega) hL' (by omega) (by rw [iq (by omega)]; omega) (by omega) (by omega) ?_).d3.swap
                rw [show ((i + l.length : Nat) : Int) = (i : Int) + l.length from by omega, show ((i + l.length + 16 + (j - i) : Nat) : Int) = ((i + l.length + 16 : Nat) : Int) + ((j : Int) - i) from by omega]
                exact Vq.right.right
              · (try simp only [Z] at h13)
                refine bI O (dV O (bM 5 bZ O aj O (eH aA O uT.get.2 O (bW O (aV (gK O O) (fO O (bg O (fun h14 => ?_) (fun h14 => ?_))))))))
                · (try simp only [Z] at h14)
                  refine aF (jU O O (dV O (bM 5 bZ O aj O (aQ (lM uT aj O O O (by rw [qO]; decide)) ?_))))
                  rintro _ w31 Uk
                  rw [xA] at Uk
                  refine bT (aH (aU (aI ?_)))
                  have wP := Uk.QO
                  refine aF (aV (dH bn O dB O O wP.get.2) (aQ (jq (cs := lX i (.slice ad ((L.drop i).take (j - i)).length cd) (.slice ai l.length ci)) wP.r6 dB O O O O (uX O O)) ?_))
                  rintro _ w32 OO
                  refine fP O ?_
                  refine sF (.inl O) mg O O bn O (by rw [xQ]; rfl) OO.get.2 ?_
                  refine ⟨_, _, O, ?_⟩
                  first
                    | rw [show iP pt i j l.length = pt + ((l.length : Int) - ((j : Int) - i)) from by unfold iP; rw [if_pos (by omega)]]
                    | rw [show iP pt i j l.length = (i : Int) + l.length from by unfold iP; rw [if_neg (by omega), if_pos (by omega)]]
                    | rw [show iP pt i j l.length = pt from by unfold iP; rw [if_neg (by omega), if_neg (by omega)]]
                  first
                    | rw [show iV mk i j l.length = mk + ((l.length : Int) - ((j : Int) - i)) from by unfold iV; rw [if_pos (by omega)]]
                    | rw [show iV mk i j l.length = (i : Int) from by unfold iV; rw [if_neg (by omega), if_pos (by omega)]]
                    | rw [show iV mk i j l.length = mk from by unfold iV; rw [if_neg (by omega), if_neg (by omega)]]
                  refine (V.yO (f := i + l.length) (t := i + l.length + 16 + (j - i)) (v := .slice ax (og L i l.length).length cx) (xs := iY (og L i l.length) i l) (by omega) (by rw [iq (by omega)]; omega) hL' (by omega) (by rw [iq (by omega)]; omega) (by omega) (by omega) ?_).d3.swap
                  rw [show ((i + l.length : Nat) : Int) = (i : Int) + l.length from by omega, show ((i + l.length + 16 + (j - i) : Nat) : Int) = ((i + l.length + 16 : Nat) : Int) + ((j : Int) - i) from by omega]
                  exact OO.right.right
                · (try simp only [Z] at h14)
                  refine bU (aH (aU (aI ?_)))
                  have wP := uT.QO
                  refine aF (aV (dH bn O dB O O wP.get.2) (aQ (jq (cs := lX i (.slice ad ((L.drop i).take (j - i)).length cd) (.slice ai l.length ci)) wP.r6 dB O O O O (uX O O)) ?_))
                  rintro _ w33 Ul
                  refine fP O ?_
                  refine sF (.inl O) mg O O bn O (by rw [xQ]; rfl) Ul.get.2 ?_
                  refine ⟨_, _, O, ?_⟩
                  first
                    | rw [show iP pt i j l.length = pt + ((l.length : Int) - ((j : Int) - i)) from by unfold iP; rw [if_pos (by omega)]]
                    | rw [show iP pt i j l.length = (i : Int) + l.length from by unfold iP; rw [if_neg (by omega), if_pos (by omega)]]
                    | rw [show iP pt i j l.length = pt from by unfold iP; rw [if_neg (by omega), if_neg (by omega)]]
                  first
                    | rw [show iV mk i j l.length = mk + ((l.length : Int) - ((j : Int) - i)) from by unfold iV; rw [if_pos (by omega)]]
                    | rw [show iV mk i j l.length = (i : Int) from by unfold iV; rw [if_neg (by omega), if_pos (by omega)]]
                    | rw [show iV mk i j l.length = mk from by unfold iV; rw [if_neg (by omega), if_neg (by omega)]]
                  refine (V.yO (f := i + l.length) (t := i + l.length + 16 + (j - i)) (v := .slice ax (og L i l.length).length cx) (xs := iY (og L i l.length) i l) (by omega) (by rw [iq (by omega)]; omega) hL' (by omega) (by rw [iq (by omega)]; omega) (by omega) (by omega) ?_).d3.swap
                  rw [show ((i + l.length : Nat) : Int) = (i : Int) + l.length from by omega, show ((i + l.length + 16 + (j - i) : Nat) : Int) = ((i + l.length + 16 : Nat) : Int) + ((j : Int) - i) from by omega]
                  exact Ul.right.right
end
def mvP (n : Nat) (pt x : Int) : Int := if 0 ≤ x ∧ x ≤ n then x else pt
def mvE (n : Nat) (x : Int) : Int := if 0 ≤ x ∧ x ≤ n then 0 else 70
def uG (v : Value) (pt mk : Int) : Array Value := #[v, .int .i64 pt, .int .i64 mk]
theorem aa4 {v : Value} {pt mk : Int} (h : v.oneCell' = true) : ∀ u ∈ (uG v pt mk).toList, u.oneCell' = true := by
  intro u hu
  simp [uG] at hu
  rcases hu with rfl | rfl | rfl
  · exact h
  · rfl
  · rfl
section
variable {w0 w : World} {F : HP} {p : Nat} {L : List Int} {pt mk x : Int} {v : Value} {l : List Int}
theorem Um (H : V w0 w (jF p L pt mk • F)) : jf prog 82 #[.pointer (some ⟨p, 0, none⟩), .int .i64 x] w fun v w' => v = .int .i64 (mvE L.length x) ∧ V w0 w' (jF p L (mvP L.length pt x) mk • F) := by
 refine qo func82 ntmps82 ?_
 refine kH O (aI (bf (bI O (dX O func131 (uV H) ?_))))
 rintro _ _ ⟨rfl, rfl⟩
 refine fO O (bg O (fun h1 => ?_) (fun h1 => ?_))
 ·(try simp only [Z] at h1)
  exfalso; first | contradiction | omega
 ·(try simp only [Z] at h1)
  refine bI O (aV (gG O O) (jY O (fun h2 => ?_) (fun h2 => ?_)))
  ·(try simp only [Z] at h2)
   refine bK (bK (bK (bK (jQ O O (fO O (ET (jS O (aN (aC (dL results82 O ?_))))))))))
   exact ⟨by rw [mvE, if_neg (by omega)], by rw [mvP, if_neg (by omega)]; exact H⟩
  ·(try simp only [Z] at h2)
   refine bF (bW O (bF (bW O (bF (dX O func132 (sH H) ?_)))))
   rintro _ w2 ⟨rfl, hD⟩
   have HL := H.zh hD
   refine bF (aV (gK O O) (iH O O (fO O (bg O (fun h3 => ?_) (fun h3 => ?_)))))
   ·(try simp only [Z] at h3)
    refine jS O (aN (aC (dL results82 O ?_)))
    exact ⟨by rw [mvE, if_neg (by omega)], by rw [mvP, if_neg (by omega)]; exact HL⟩
   ·(try simp only [Z] at h3)
    refine bU (aH (aU (aI ?_)))
    obtain ⟨a, c, xs, f, t, h11, h12, h13, h14, h15, h16, h17, hc1, hc2, hl, HB⟩ := HL.buf
    refine aF (jU O O (dV O (bM 4 bZ O aj O (aQ (lM HB aj O O O (by rw [qO]; decide)) ?_))))
    rintro _ w3 H3
    rw [EC] at H3
    refine iR (jS O (dL results82 O ?_))
    exact ⟨by rw [mvE, if_pos (by omega)], by rw [mvP, if_pos (by omega)]; exact V.yO h11 h12 h13 h14 h15 (by omega) h17 H3⟩
theorem Kt (H : V w0 w (jF p L pt mk • F)) : jf prog 79 #[.pointer (some ⟨p, 0, none⟩)] w fun v' w' => ∃ u, v' = .agg (uG u pt mk) ∧ V w0 w' (je 21 .i32 u L • jF p L pt mk • F) := by
 refine jE func79 ntmps79 ?_
 refine jg (kV (Ea H zeroValue46) ?_)
 rintro _ w1 ⟨b1, rfl, H1⟩
 refine uS O (dX O func126 (zy H1.swap) ?_)
 rintro u w2 H2
 obtain ⟨au, cu, hu, _⟩ := (H2.aO).form
 subst hu
 refine bW O (dX O func127 (Az H2.swap) ?_)
 rintro _ _ ⟨rfl, rfl⟩
 refine bW O (dX O func128 (Ui H2.swap) ?_)
 rintro _ _ ⟨rfl, rfl⟩
 refine aV (qx (pl := #[(0, 1), (1, 1), (2, 1)]) (uG (.slice au L.length cu) pt mk) fK zeroValue46 (fun w => by kernel_rfl) O (by kernel_rfl)) (aQ (jq (cs := uG (.slice au L.length cu) pt mk) H2.QO sizeOf46 O O O O (aa4 O)) ?_)
 rintro _ w5 H5
 refine zkc ?_
 refine afd (.inl O) results79 O fK O (by rw [acz]; rfl) H5.get.2 ?_
 exact ⟨_, O, H5.right⟩
end
end Go.Proofs.YtpdeedplgmbopaaGreatDoor
end
section
namespace Go.Proofs.YtpdeedplgmbopaaGreatDoor
open Go.RowKit
def acA (g : Int → Bool) (l : List Int) (at_ : Nat) : Nat := at_ + ((l.drop at_).takeWhile g).length
def acB (g : Int → Bool) (l : List Int) (at_ : Nat) : Nat := at_ - ((l.take at_).reverse.takeWhile g).length
def Ku (n : Nat) (x : Int) : Nat := (min (max x 0) n).toNat
section
variable {w0 w : World} {F G : HP} {v fv : Value} {l : List Int} {g : Int → Bool}
def ai3 (l : List Int) (x : Int) : Nat := acA iC l (acA (fun r => !iC r) l (Ku l.length x))
def aht (l : List Int) (x : Int) : Nat := acB iC l (acB (fun r => !iC r) l (Ku l.length x))
def ZT (r : Int) : Bool := decide (GV r ≠ 0) || oG r
def alL (l : List Int) (x : Int) : Nat := if Ku l.length x < l.length then acA (fun r => !ZT r) l (Ku l.length x + 1) else l.length
def alM (l : List Int) (x : Int) : Nat := acB (fun r => !ZT r) l (Ku l.length x) - 1
end
section
variable {w0 w : World} {F : HP} {p : Nat} {L : List Int} {pt mk : Int} {v : Value} {l : List Int}
end
end Go.Proofs.YtpdeedplgmbopaaGreatDoor
end
