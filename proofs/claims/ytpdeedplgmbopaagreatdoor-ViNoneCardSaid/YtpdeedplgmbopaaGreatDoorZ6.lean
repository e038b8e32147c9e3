import Derived.Test.YtpdeedplgmbopaaGreatDoorZ4
import Derived.Test.YtpdeedplgmbopaaGreatDoorZ5
import Derived.Test.YtpdeedplgmbopaaGreatDoorZ3
set_option linter.unusedSimpArgs false
set_option linter.unusedVariables false
/- Texts of mine, joined, their names in short: Buf Buf2 Buf3 LineP Move BLive Same Apply BufP Ring Ring2 Ring3 RingAny LL Flat Undo1 Undo2 Eds. -/
section
namespace Go.Proofs.YtpdeedplgmbopaaGreatDoor
open Go.RowKit
open _root_.Go.Proofs.Tryz
theorem LV {s i j : Nat} {v : Value} (h : v.oneCell' = true) : (wJ s i j v).oneCell' = true := by cases v <;> simp_all [wJ, Value.oneCell']
def kY (v : Value) (f t pt mk : Int) : Array Value := #[.bool true, v, .int .i64 f, .int .i64 t, .int .i64 pt, .int .i64 mk]
theorem XI {a b : Value} (h : a.oneCell' = true) (k : b.oneCell' = true) : ∀ u ∈ [a, b], u.oneCell' = true := by
  intro u hu; simp at hu; rcases hu with rfl | rfl
  · exact h
  · exact k
section
variable {v u : Value} {f t pt mk x : Int}
theorem FT : (kY v f t pt mk).size = 6 := rfl
theorem J5 : (kY v f t pt mk).setIfInBounds 2 (.int .i64 x) = kY v x t pt mk := rfl
theorem OX : (kY v f t pt mk).setIfInBounds 3 (.int .i64 x) = kY v f x pt mk := rfl
theorem Ik : (kY v f t pt mk).setIfInBounds 4 (.int .i64 x) = kY v f t x mk := rfl
end
def jc (p : Nat) (L : List Int) (pt mk : Int) : HP := rH fun (x : Value × List Int × Nat × Nat) =>
  fact (x.2.2.1 ≤ x.2.2.2 ∧ x.2.2.2 ≤ x.2.1.length ∧ L = x.2.1.take x.2.2.1 ++ x.2.1.drop x.2.2.2 ∧ L.length ≤ 1024 ∧ x.2.1.length ≤ 4096 ∧ (0 ≤ pt ∧ pt ≤ L.length) ∧ (-1 ≤ mk ∧ mk ≤ L.length)) •
    dK p (.cells (kY x.1 x.2.2.1 x.2.2.2 pt mk) 197 (0, 0)) • kQ 21 .i32 x.1 x.2.1
section
variable {w0 w : World} {F : HP} {p : Nat} {L : List Int} {pt mk : Int}
theorem V.buf (H : V w0 w (jc p L pt mk • F)) : ∃ (a : Option Addr) (c : Nat) (xs : List Int) (f t : Nat), f ≤ t ∧ t ≤ xs.length ∧ L = xs.take f ++ xs.drop t ∧ L.length ≤ 1024 ∧ xs.length ≤ 4096 ∧ (0 ≤ pt ∧ pt ≤ L.length) ∧ (-1 ≤ mk ∧ mk ≤ L.length) ∧ xs.length ≤ c ∧ (c : Int) ≤ 9223372036854775807 ∧ L.length + t = xs.length + f ∧
    V w0 w (dK p (.cells (kY (.slice a xs.length c) f t pt mk) 197 (0, 0)) • kQ 21 .i32 (.slice a xs.length c) xs • F) := by
  obtain ⟨⟨v, xs, f, t⟩, H⟩ := H.lJ
  obtain ⟨⟨h1, h2, h3, h4, h5, h6, h7⟩, H⟩ := H.flat.fact
  have H := H.flat
  obtain ⟨a, c, hv, hc1, hc2, _⟩ := (H.swap.aS).form
  dsimp only at *
  subst hv
  refine ⟨a, c, xs, f, t, h1, h2, h3, h4, h5, h6, h7, hc1, hc2, ?_, H⟩
  rw [h3]; simp; omega
theorem V.FU {v : Value} {xs : List Int} {f t : Nat} (h1 : f ≤ t) (h2 : t ≤ xs.length) (h3 : L = xs.take f ++ xs.drop t) (h4 : L.length ≤ 1024) (h5 : xs.length ≤ 4096) (h6 : 0 ≤ pt ∧ pt ≤ L.length) (h7 : -1 ≤ mk ∧ mk ≤ L.length)
    (H : V w0 w (dK p (.cells (kY v f t pt mk) 197 (0, 0)) • kQ 21 .i32 v xs • F)) : V w0 w (jc p L pt mk • F) :=
  V.iy (v, xs, f, t) (V.deep (V.jY ⟨h1, h2, h3, h4, h5, h6, h7⟩ (V.deep H)))
theorem qW (t : TypeId) {cs : Array Value} {fr : Nat × Nat} {m : Bool} (hb : w.heap[p]? = some (.cells cs t fr)) (h0 : cs[0]? = some (.bool m)) :
    gI prog 131 #[.pointer (some ⟨p, 0, none⟩)] w fun v w' => v = .bool (!m) ∧ w = w' := by
  refine gG func131 ntmps131 ?_
  refine jg O (bP O (aV (fV pX O O) (QA O (fun h1 => ?_))))
  (try simp only [Z] at h1)
  refine bC (bQ O (bC (dJ O (bC (bD 0 eG O aO O (bC (fG bK O hb h0 (bC (aV (lY O) (iM O O (eY O (dG results131 O ?_))))))))))))
  exact ⟨O, O⟩
theorem LW (H : V w0 w (jc p L pt mk • F)) : gI prog 132 #[.pointer (some ⟨p, 0, none⟩)] w fun v w' => v = .int .i64 L.length ∧ zk w w' := by
 obtain ⟨a, c, xs, f, t, h1, h2, h3, h4, h5, h6, h7, hc1, hc2, hl, H1⟩ := H.buf
 have hb := H1.get.2
 refine gG func132 ntmps132 ?_
 refine jg O (aP (bP O (dS O func131 (qW _ hb O) ?_)))
 rintro _ _ ⟨rfl, rfl⟩
 refine iJ (qy (fZ (aP ?_)))
 refine zx (n := 16) [0, 1, 2, 3, 4, 5, 6, 7, 8, 9, 10, 11, 12, 13, 14, 15] (fun W => W.heap = w.heap) (by kernel_rfl) (by kernel_rfl) O ?_
 have hS0 : (fun W => W.heap = w.heap) (w.drew) := rfl
 have H3d := H1.drew
 refine jG 0 O hS0 O (kD 1 O hS0 O (gV 2 O hS0 1 eG O dH O ?_))
 refine jS 3 O hS0 (fun W hW => jX aB O (by rw [hW]; exact hb) O) ?_
 refine jB 4 O hS0 (fun _ => ny aB O) (jG 5 O hS0 O (kD 6 O hS0 O (gV 7 O hS0 3 eG O aj O ?_)))
 refine jS 8 O hS0 (fun W hW => jX aK O (by rw [hW]; exact hb) O) ?_
 refine jG 9 O hS0 O (kD 10 O hS0 O (gV 11 O hS0 2 eG O aj O ?_))
 refine jS 12 O hS0 (fun W hW => jX aK O (by rw [hW]; exact hb) O) ?_
 refine jB 13 O hS0 (fun _ => kX O O (by omega)) (jB 14 O hS0 (fun _ => kX O O (by omega)) (jB 15 O hS0 (fun _ => dN O) (qR (aX (mD (dG results132 O ?_))))))
 exact ⟨by congr 1; omega, zk.refl _ |>.drew⟩
theorem Il (H : V w0 w (jc p L pt mk • F)) : gI prog 127 #[.pointer (some ⟨p, 0, none⟩)] w fun v w' => v = .int .i64 pt ∧ w = w' := by
  obtain ⟨a, c, xs, f, t, h1, h2, h3, h4, h5, h6, h7, hc1, hc2, hl, H1⟩ := H.buf
  have hb := H1.get.2
  refine gG func127 ntmps127 ?_
  refine jg O (aP (bP O (dS O func131 (qW _ hb O) ?_)))
  rintro _ _ ⟨rfl, rfl⟩
  refine iJ (qy (fZ (bP O (dJ O (bD 4 eG O aj O (fG aK O hb O (eY O (dG results127 O ?_))))))))
  exact ⟨O, O⟩
theorem J6 (H : V w0 w (jc p L pt mk • F)) : gI prog 128 #[.pointer (some ⟨p, 0, none⟩)] w fun v w' => v = .int .i64 mk ∧ w = w' := by
  obtain ⟨a, c, xs, f, t, h1, h2, h3, h4, h5, h6, h7, hc1, hc2, hl, H1⟩ := H.buf
  have hb := H1.get.2
  refine gG func128 ntmps128 ?_
  refine jg O (aP (bP O (dS O func131 (qW _ hb O) ?_)))
  rintro _ _ ⟨rfl, rfl⟩
  refine iJ (qy (fZ (bP O (dJ O (bD 5 eG O aj O (fG aK O hb O (eY O (dG results128 O ?_))))))))
  exact ⟨O, O⟩
theorem J7 (H : V w0 w (jc p L pt mk • F)) : gI prog 126 #[.pointer (some ⟨p, 0, none⟩)] w fun v w' => V w0 w' (kQ 21 .i32 v L • jc p L pt mk • F) := by
 obtain ⟨a, c, xs, f, t, h1, h2, h3, h4, h5, h6, h7, hc1, hc2, hl, H1⟩ := H.buf
 have hb := H1.get.2
 refine gG func126 ntmps126 ?_
 refine jg O (aP (bP O (dS O func131 (qW _ hb O) ?_)))
 rintro _ _ ⟨rfl, rfl⟩
 refine iJ (qy (fZ (aP ?_)))
 refine zx (n := 21) [0, 1, 2, 3, 4, 5, 6, 7, 8, 9, 10, 11, 12, 13, 14, 15, 16, 17, 18, 19, 20] (fun W => W.heap[p]? = some (.cells (kY (.slice a xs.length c) f t pt mk) 197 (0, 0))) (by kernel_rfl) (by kernel_rfl) O ?_
 have hS0 : (fun W => W.heap[p]? = some (.cells (kY (.slice a xs.length c) f t pt mk) 197 (0, 0))) (w.drew) := hb
 have H3d := H1.drew
 refine jG 0 O hS0 O (kD 1 O hS0 O (gV 2 O hS0 1 eG O dH O (jS 3 O hS0 (fun W hW => jX aB O hW O) (jG 4 O hS0 O (kD 5 O hS0 O (gV 6 O hS0 2 eG O aj O (jS 7 O hS0 (fun W hW => jX aK O hW O) (jB 8 O hS0 (fun _ => Cj aB bT O O O (by omega)) ?_))))))))
 refine jG 9 O hS0 O (kD 10 O hS0 O (gV 11 O hS0 1 eG O dH O (jS 12 O hS0 (fun W hW => jX aB O hW O) (jG 13 O hS0 O (kD 14 O hS0 O (gV 15 O hS0 3 eG O aj O (jS 16 O hS0 (fun W hW => jX aK O hW O) (jB 17 O hS0 (fun _ => Cj aB bT O O O (by omega)) ?_))))))))
 refine og 18 O (YV (vs := [wJ 1 0 f (.slice a xs.length c), wJ 1 t xs.length (.slice a xs.length c)]) H3d iK dH zeroValue22 O O O (by decide) (XI (LV O) (LV O))) ?_
 rintro _ w2 ⟨b2, rfl, H2⟩
 have hS2 : (fun W => W.heap[p]? = some (.cells (kY (.slice a xs.length c) f t pt mk) 197 (0, 0))) w2 := H2.swap.get.2
 refine YU hS2 ?_
 refine og 19 O (yF O func172 (LU (l1 := xs.take f) (l2 := xs.drop t) H2 (fun W HW => fP.upto HW.rot.aS (by omega)) (fun W HW => fP.from HW.rot.aS (by omega)) (by simp; omega))) ?_
 rintro u w3 H3
 have hS3 : (fun W => W.heap[p]? = some (.cells (kY (.slice a xs.length c) f t pt mk) 197 (0, 0))) w3 := H3.rot.get.2
 refine YU hS3 ?_
 refine jB 20 O hS3 (fun _ => dN O) (qR (aX (mD (dG results126 O ?_))))
 rw [← h3] at H3
 exact (V.FU h1 h2 h3 h4 h5 h6 h7 H3.swap.right.d3).swap
theorem LX {v : Value} {l : List Int} (H : V w0 w F) (hr : jZ w0 F .i32 v l) (hl : l.length ≤ 1024) : gI prog 151 #[v] w fun v' w' => ∃ p, v' = .tuple #[.pointer (some ⟨p, 0, none⟩), .int .i64 0] ∧ V w0 w' (jc p l l.length (-1) • F) := by
 obtain ⟨a, c, rfl, _, _, _⟩ := (hr w H).open
 refine gG func151 ntmps151 ?_
 refine iE (fU O (vk O (bP O (aV (ny aB O) (aV (iV O O) (iJ (wcB O (fun h1 => ?_))))))))
 (try simp only [Z] at h1)
 refine fZ (bP O (dS O func71 (pq H hr (by omega)) ?_))
 rintro u w1 H1
 obtain ⟨au, cu, hu, _⟩ := (H1.aS).form
 subst hu
 refine bQ O (aV (ny aB O) (aV (oZ (pl := #[(0, 1), (1, 1), (2, 1), (3, 1), (4, 1), (5, 1)]) (kY (.slice au l.length cu) 0 0 l.length (-1)) eG zeroValue197 (fun w => by kernel_rfl) O (by kernel_rfl)) (jr (Qy H1 O) ?_)))
 rintro _ w2 ⟨b2, rfl, H2⟩
 refine vk O ?_
 have HB : V w0 w2 (dK b2 (.cells (kY (.slice au l.length cu) 0 0 l.length (-1)) 197 (0, 0)) • kQ 21 .i32 (.slice au l.length cu) l • F) := H2
 refine aC (jJ O O (bQ O (aV (ny aB O) (bQ O (aV (ny aB O) (dJ O (bD 2 eG O aj O (aH (Ad HB aj O O O (by rw [FT]; decide)) ?_))))))))
 rintro _ w3 HB1
 rw [J5] at HB1
 refine dJ O (bD 3 eG O aj O (aH (Ad HB1 aj O O O (by rw [FT]; decide)) ?_))
 rintro _ w4 HB2
 rw [OX] at HB2
 refine qH O (fU O (eY O (Jl results151 O O ?_)))
 exact ⟨_, O, V.FU (f := l.length) (t := l.length) (Nat.le_refl _) (Nat.le_refl _) (by simp) hl (by omega) (by omega) (by omega) HB2⟩
end
def acQ (L : List Int) (i r : Nat) : List Int := Qz (Qz (List.replicate (L.length + r + 16) 0) 0 (L.take i)) (i + r + 16) (L.drop i)
section
variable {w0 w : World} {F : HP} {p : Nat} {L : List Int} {pt mk : Int}
theorem CO (H : V w0 w (jc p L pt mk • F)) : gI prog 131 #[.pointer (some ⟨p, 0, none⟩)] w fun v w' => v = .bool false ∧ w = w' := by
  obtain ⟨a, c, xs, f, t, h1, h2, h3, h4, h5, h6, h7, hc1, hc2, hl, H1⟩ := H.buf
  exact qW _ H1.get.2 rfl
def ZK (pt i j n : Int) : Int := if j < pt then pt + (n - (j - i)) else if i ≤ pt then i + n else pt
def ZL (mk i j n : Int) : Int := if j < mk then mk + (n - (j - i)) else if i < mk then i else mk
def acM (at_ : Int) (d i : Value) : Array Value := #[.int .i64 at_, d, i]
variable {v : Value} {l : List Int} {i j : Int}
end
end Go.Proofs.YtpdeedplgmbopaaGreatDoor
end
section
namespace Go.Proofs.YtpdeedplgmbopaaGreatDoor
open Go.RowKit
section
variable {w0 w : World} {F : HP} {p : Nat} {L : List Int} {pt mk : Int} {v : Value} {l : List Int} {i j : Int}
end
end Go.Proofs.YtpdeedplgmbopaaGreatDoor
end
section
namespace Go.Proofs.YtpdeedplgmbopaaGreatDoor
open Go.RowKit
open _root_.Go.Proofs.Tryz
def mvP (n : Nat) (pt x : Int) : Int := if 0 ≤ x ∧ x ≤ n then x else pt
def mvE (n : Nat) (x : Int) : Int := if 0 ≤ x ∧ x ≤ n then 0 else 70
def rO (v : Value) (pt mk : Int) : Array Value := #[v, .int .i64 pt, .int .i64 mk]
theorem RY {v : Value} {pt mk : Int} (h : v.oneCell' = true) : ∀ u ∈ (rO v pt mk).toList, u.oneCell' = true := by
  intro u hu
  simp [rO] at hu
  rcases hu with rfl | rfl | rfl
  · exact h
  · rfl
  · rfl
section
variable {w0 w : World} {F : HP} {p : Nat} {L : List Int} {pt mk x : Int} {v : Value} {l : List Int}
theorem J8 (H : V w0 w (jc p L pt mk • F)) : gI prog 82 #[.pointer (some ⟨p, 0, none⟩), .int .i64 x] w fun v w' => v = .int .i64 (mvE L.length x) ∧ V w0 w' (jc p L (mvP L.length pt x) mk • F) := by
 refine oq func82 ntmps82 ?_
 refine jg O (aP (aY (bP O (dS O func131 (CO H) ?_))))
 rintro _ _ ⟨rfl, rfl⟩
 refine gJ O (bJ O (fun h1 => ?_) (fun h1 => ?_))
 ·(try simp only [Z] at h1)
  exfalso; first | contradiction | omega
 ·(try simp only [Z] at h1)
  refine bP O (aV (iL O O) (jP O (fun h2 => ?_) (fun h2 => ?_)))
  ·(try simp only [Z] at h2)
   refine bI (bI (bI (bI (jF O O (gJ O (EK (jC O (aT (aF (dG results82 O ?_))))))))))
   exact ⟨by rw [mvE, if_neg (by omega)], by rw [mvP, if_neg (by omega)]; exact H⟩
  ·(try simp only [Z] at h2)
   refine bC (bQ O (bC (bQ O (bC (dS O func132 (LW H) ?_)))))
   rintro _ w2 ⟨rfl, hD⟩
   have HL := H.YN hD
   refine bC (aV (iV O O) (iM O O (gJ O (bJ O (fun h3 => ?_) (fun h3 => ?_)))))
   ·(try simp only [Z] at h3)
    refine jC O (aT (aF (dG results82 O ?_)))
    exact ⟨by rw [mvE, if_neg (by omega)], by rw [mvP, if_neg (by omega)]; exact HL⟩
   ·(try simp only [Z] at h3)
    refine bY (aJ (aX (aP ?_)))
    obtain ⟨a, c, xs, f, t, h11, h12, h13, h14, h15, h16, h17, hc1, hc2, hl, HB⟩ := HL.buf
    refine aC (jJ O O (dJ O (bD 4 eG O aj O (aH (Ad HB aj O O O (by rw [FT]; decide)) ?_))))
    rintro _ w3 H3
    rw [Ik] at H3
    refine iJ (jC O (dG results82 O ?_))
    exact ⟨by rw [mvE, if_pos (by omega)], by rw [mvP, if_pos (by omega)]; exact V.FU h11 h12 h13 h14 h15 (by omega) h17 H3⟩
theorem CP (H : V w0 w (jc p L pt mk • F)) : gI prog 79 #[.pointer (some ⟨p, 0, none⟩)] w fun v' w' => ∃ u, v' = .agg (rO u pt mk) ∧ V w0 w' (kQ 21 .i32 u L • jc p L pt mk • F) := by
 refine gG func79 ntmps79 ?_
 refine iE (jr (EY H zeroValue46) ?_)
 rintro _ w1 ⟨b1, rfl, H1⟩
 refine qH O (dS O func126 (J7 H1.swap) ?_)
 rintro u w2 H2
 obtain ⟨au, cu, hu, _⟩ := (H2.aS).form
 subst hu
 refine bQ O (dS O func127 (Il H2.swap) ?_)
 rintro _ _ ⟨rfl, rfl⟩
 refine bQ O (dS O func128 (J6 H2.swap) ?_)
 rintro _ _ ⟨rfl, rfl⟩
 refine aV (oZ (pl := #[(0, 1), (1, 1), (2, 1)]) (rO (.slice au L.length cu) pt mk) jl zeroValue46 (fun w => by kernel_rfl) O (by kernel_rfl)) (aH (xq (cs := rO (.slice au L.length cu) pt mk) H2.rot sizeOf46 O O O O (RY O)) ?_)
 rintro _ w5 H5
 refine YW ?_
 refine Xz (.inl O) results79 O jl O (by rw [Uy]; rfl) H5.get.2 ?_
 exact ⟨_, O, H5.right⟩
end
end Go.Proofs.YtpdeedplgmbopaaGreatDoor
end
section
namespace Go.Proofs.YtpdeedplgmbopaaGreatDoor
open Go.RowKit
def Uz (g : Int → Bool) (l : List Int) (at_ : Nat) : Nat := at_ + ((l.drop at_).takeWhile g).length
def UA (g : Int → Bool) (l : List Int) (at_ : Nat) : Nat := at_ - ((l.take at_).reverse.takeWhile g).length
def CQ (n : Nat) (x : Int) : Nat := (min (max x 0) n).toNat
section
variable {w0 w : World} {F G : HP} {v fv : Value} {l : List Int} {g : Int → Bool}
def abl (l : List Int) (x : Int) : Nat := Uz dM l (Uz (fun r => !dM r) l (CQ l.length x))
def ZM (l : List Int) (x : Int) : Nat := UA dM l (UA (fun r => !dM r) l (CQ l.length x))
def QF (r : Int) : Bool := decide (zD r ≠ 0) || jU r
def aeg (l : List Int) (x : Int) : Nat := if CQ l.length x < l.length then Uz (fun r => !QF r) l (CQ l.length x + 1) else l.length
def aeh (l : List Int) (x : Int) : Nat := UA (fun r => !QF r) l (CQ l.length x) - 1
end
section
variable {w0 w : World} {F : HP} {p : Nat} {L : List Int} {pt mk : Int} {v : Value} {l : List Int}
end

section
variable {w0 w : World} {F : HP} {p : Nat} {L : List Int} {pt mk a : Int} {d i : Value} {dl il : List Int}
end
end Go.Proofs.YtpdeedplgmbopaaGreatDoor
end
section
namespace Go.Proofs.YtpdeedplgmbopaaGreatDoor
open Go.RowKit
open _root_.Go.Proofs.Tryz
def Eo (L : List Int) (i j : Int) (l : List Int) : Int := if i < 0 ∨ L.length < i ∨ j < i ∨ L.length < j then 70 else if 1024 < L.length - (j - i) + l.length then 3 else 0
def YX (L : List Int) (i j : Int) (l : List Int) : List Int := if Eo L i j l = 0 then L.take i.toNat ++ l ++ L.drop j.toNat else L
def YZ (L : List Int) (pt i j : Int) (l : List Int) : Int := if Eo L i j l = 0 then ZK pt i j l.length else pt
def Y0 (L : List Int) (mk i j : Int) (l : List Int) : Int := if Eo L i j l = 0 then ZL mk i j l.length else mk
def abm (L : List Int) (i j : Int) (l : List Int) : Int := if Eo L i j l = 0 then i else 0
def abn (L : List Int) (i j : Int) (l : List Int) : List Int := if Eo L i j l = 0 then (L.drop i.toNat).take (j - i).toNat else []
def abo (L : List Int) (i j : Int) (l : List Int) : List Int := if Eo L i j l = 0 then l else []
section
variable {w0 w : World} {F : HP} {p : Nat} {L : List Int} {pt mk : Int} {v d s : Value} {l dl il : List Int} {i j a x : Int}
def smE (L : List Int) (x : Int) : Int := if x < -1 ∨ L.length < x then 70 else 0
def smM (L : List Int) (mk x : Int) : Int := if x < -1 ∨ L.length < x then mk else x
def swE (mk : Int) : Int := if mk < 0 then 6 else 0
def swP (pt mk : Int) : Int := if mk < 0 then pt else mk
def swM (pt mk : Int) : Int := if mk < 0 then mk else pt
theorem Io (H : V w0 w (jc p L pt mk • F)) : gI prog 129 #[.pointer (some ⟨p, 0, none⟩)] w fun v' w' => ∃ q, v' = .pointer (some ⟨q, 0, none⟩) ∧ V w0 w' (jc q L pt mk • jc p L pt mk • F) := by
 refine gG func129 ntmps129 ?_
 refine jg O (aP (bP O (dS O func131 (CO H) ?_)))
 rintro _ _ ⟨rfl, rfl⟩
 refine iJ (qy (fZ (aP ?_)))
 obtain ⟨aeF, aeG, aeH, f_p, t_p, abp, abq, abr, abt, abu, abv, aeI, aeJ, aeK, aei, abw⟩ := (H).buf
 refine aC (nD O O (aV (eU eG O sizeOf197 O O (abw).get.2) (jr (fH (l := [_, _, _, _, _, _]) abw zeroValue197 O) ?_)))
 rintro _ w3 ⟨b3, rfl, H3⟩
 refine aH (bU 0 (l' := [_, _, _, _, _, _]) (us := [_, _, _, _, _, _]) H3 sizeOf197 O O O (ay (aW (by first | rfl | exact Rd.one ((H3.f3).aS)) (ay (ay (ay (ay bF)))))) O O) ?_
 rintro _ w4 H4
 refine qH O (dJ O (bD 1 eG O dH O (fG aB O (H4.f2).get.2 O (dS O func71 (pq H4 (fun W HW => (HW.f3).aS) (by omega)) ?_))))
 rintro u5 w5 H5
 refine bD 1 eG O dH O (aH (eX 1 (l' := [_, _, _, _, _, _]) H5.f2 dH O O (by first | rfl | exact Rd.one ((H5).aS)) O O) ?_)
 rintro _ w6 H6
 refine iJ (jC O (dG results129 O ?_))
 exact ⟨_, O, (V.FU abp abq abr abt abu abv (by omega) (V.FU abp abq abr abt abu abv (by omega) H6.f4.f4.f4.f4).f2.f3.f2).f2⟩
def abx (L : List Int) (a : Int) (dl : List Int) : Bool := decide ((dl.length : Int) ≤ L.length - a) && ((L.drop a.toNat).take dl.length == dl)
def ZN (L : List Int) (a : Int) (dl il : List Int) : Int := if a < 0 ∨ L.length < a then 70 else if abx L a dl then Eo L a (a + dl.length) il else 71
def acR (L : List Int) (a : Int) (dl il : List Int) : List Int := if ZN L a dl il = 0 then YX L a (a + dl.length) il else L
def acS (L : List Int) (pt a : Int) (dl il : List Int) : Int := if ZN L a dl il = 0 then YZ L pt a (a + dl.length) il else pt
def acT (L : List Int) (mk a : Int) (dl il : List Int) : Int := if ZN L a dl il = 0 then Y0 L mk a (a + dl.length) il else mk
end
def iC (s : List Value) (h n p : Nat) : Array Value := (Value.bool true :: (s ++ [.int .i64 h, .int .i64 n, .int .i64 p])).toArray
section
variable {s : List Value} {h n p : Nat}
theorem DK (hs : s.length = 60) : (iC s h n p).size = 64 := by simp [iC, hs]
theorem J9 : (iC s h n p)[0]? = some (.bool true) := by simp [iC]
theorem RZ (hs : s.length = 60) {i : Nat} (hi : i < 60) : (iC s h n p)[1 + i]? = some (s.getD i undef) := by
  simp [iC, Nat.add_comm 1 i, List.getElem?_append_left (show i < s.length by omega), List.getD_eq_getElem?_getD, show i < s.length by omega]
theorem Si (hs : s.length = 60) : (iC s h n p)[61]? = some (.int .i64 h) := by simp [iC, hs]
theorem rP (hs : s.length = 60) : (iC s h n p)[62]? = some (.int .i64 n) := by simp [iC, hs]
theorem FV (hs : s.length = 60) : (iC s h n p)[63]? = some (.int .i64 p) := by simp [iC, hs]
theorem FW (hs : s.length = 60) (x : Nat) : (iC s h n p).setIfInBounds 63 (.int .i64 x) = iC s h n x := by
  apply Array.ext'; simp [iC, List.set_append, hs]
end
def aby (I : Hp) (s : List Value) (h : Nat) (E : List (List Int)) : Prop := ∀ i, i < E.length → CB I .i32 (s.getD ((h + i) % 60) undef) (E.getD i [])
def yI (s : List Value) (h : Nat) (E : List (List Int)) : HP := know (fun I => aby I s h E) fun _ _ hl hk i hi => (hk i hi).mono hl
def iF (p : Nat) (E : List (List Int)) (place : Nat) : HP := rH fun (x : List Value × Nat) =>
  fact (x.1.length = 60 ∧ x.2 < 60 ∧ E.length ≤ 60 ∧ (place < E.length ∨ place = 0) ∧ (∀ e ∈ E, e.length ≤ 1024) ∧ ∀ v ∈ x.1, v.oneCell' = true) • dK p (.cells (iC x.1 x.2 E.length place) 207 (0, 0)) • yI x.1 x.2 E
section
variable {w0 w : World} {F : HP} {p place : Nat} {E : List (List Int)}
theorem V.ring (H : V w0 w (iF p E place • F)) : ∃ s h, s.length = 60 ∧ h < 60 ∧ E.length ≤ 60 ∧ (place < E.length ∨ place = 0) ∧ (∀ e ∈ E, e.length ≤ 1024) ∧ (∀ v ∈ s, v.oneCell' = true) ∧ V w0 w (dK p (.cells (iC s h E.length place) 207 (0, 0)) • yI s h E • F) := by
  obtain ⟨⟨s, h⟩, H⟩ := H.lJ
  obtain ⟨⟨h1, h2, h3, h4, h5, h6⟩, H⟩ := H.flat.fact
  exact ⟨s, h, h1, h2, h3, h4, h5, h6, H.flat⟩
theorem V.EZ {s : List Value} {h : Nat} (h1 : s.length = 60) (h2 : h < 60) (h3 : E.length ≤ 60) (h4 : place < E.length ∨ place = 0) (h5 : ∀ e ∈ E, e.length ≤ 1024) (h6 : ∀ v ∈ s, v.oneCell' = true) (H : V w0 w (dK p (.cells (iC s h E.length place) 207 (0, 0)) • yI s h E • F)) : V w0 w (iF p E place • F) :=
  V.iy (s, h) (V.deep (V.jY ⟨h1, h2, h3, h4, h5, h6⟩ H.deep))
theorem Ko (H : V w0 w F) : gI prog 110 #[] w fun v w' => ∃ p, v = .pointer (some ⟨p, 0, none⟩) ∧ V w0 w' (iF p [] 0 • F) := by
  refine RQ func110 ntmps110 ?_
  refine jg O (iE (aV (oZ (pl := #[(0, 1), (1, 60), (61, 1), (62, 1), (63, 1)]) (iC (List.replicate 60 (.slice none 0 0)) 0 0 0) fJ zeroValue207 (fun w => by kernel_rfl) O (by kernel_rfl)) (jr (Qy H O) ?_)))
  rintro _ w1 ⟨b1, rfl, H1⟩
  refine eY O (dG results110 O ?_)
  refine ⟨b1, O, V.EZ (s := List.replicate 60 (.slice none 0 0)) (h := 0) (by simp) (by omega) (by simp) (.inr O) (by simp) (by intro v hv; rw [List.eq_of_mem_replicate hv]; rfl) ?_⟩
  exact V.swap (V.uN (fun I i hi => by simp at hi) H1)
theorem sQ (t : TypeId) {cs : Array Value} {fr : Nat × Nat} {m : Bool} (hb : w.heap[p]? = some (.cells cs t fr)) (h0 : cs[0]? = some (.bool m)) :
    gI prog 140 #[.pointer (some ⟨p, 0, none⟩)] w fun v w' => v = .bool (!m) ∧ w = w' := by
  refine gG func140 ntmps140 ?_
  refine jg O (bP O (aV (fV sS O O) (QA O (fun h1 => ?_))))
  (try simp only [Z] at h1)
  refine bC (bQ O (bC (dJ O (bC (bD 0 fJ O aO O (bC (fG bK O hb h0 (bC (aV (lY O) (iM O O (eY O (dG results140 O ?_))))))))))))
  exact ⟨O, O⟩
theorem V.UC {s : List Value} {h i : Nat} (H : V w0 w (yI s h E • F)) (hi : i < E.length) : fP w .i32 (s.getD ((h + i) % 60) undef) (E.getD i []) := let ⟨I, k, hI⟩ := H.ql; (k i hi).rd hI
theorem LY {s : List Value} {h n m : Nat} {t : TypeId} {fr : Nat × Nat} {k : Nat} (hs : s.length = 60) (hh : h < 60) (hk : k < 60) (hb : w.heap[p]? = some (.cells (iC s h n m) t fr)) :
  gI prog 141 #[.pointer (some ⟨p, 0, none⟩), .int .i64 k] w fun v w' => v = s.getD ((h + k) % 60) undef ∧ zk w w' := by
 refine oq func141 ntmps141 ?_
 refine jg O (aP ?_)
 refine zx (n := 13) [0, 1, 2, 3, 4, 5, 6, 7, 8, 9, 10, 11, 12] (fun W => W.heap = w.heap) (by kernel_rfl) (by kernel_rfl) O ?_
 have hS0 : (fun W => W.heap = w.heap) (w.drew) := rfl
 refine jG 0 O hS0 O (jG 1 O hS0 O (kD 2 O hS0 O (gV 3 O hS0 61 fJ O aj O ?_)))
 refine jS 4 O hS0 (fun W hW => jX aK O (by rw [hW]; exact hb) (Si hs)) ?_
 refine jG 5 O hS0 O (jB 6 O hS0 (fun _ => gy O O (by omega)) ?_)
 refine jB 7 O hS0 (fun _ => YR O O (by omega) (by  omega)) ?_
 refine kD 8 O hS0 O (gV 9 O hS0 1 fJ O sizeOf205 O (jB 10 O hS0 (fun _ => LC underlying205 dH O O (by omega)) ?_))
 refine jS 11 O hS0 (fun W hW => jX aB O (by rw [hW]; exact hb) (by rw [show (1 + (((h : Int) + (k : Int)) % 60).toNat * 1) = 1 + (h + k) % 60 from by omega]; exact RZ hs (by omega))) ?_
 refine jB 12 O hS0 (fun _ => dN O) (qR (aX (mD (dG results141 O ?_))))
 exact ⟨O, ⟨1, O⟩⟩
theorem Kq (H : V w0 w (iF p E place • F)) : gI prog 86 #[.pointer (some ⟨p, 0, none⟩)] w fun v w' => v = .int .i64 E.length ∧ w = w' := by
  obtain ⟨s, h, hs, hh, hE, hp, hm, ho, H1⟩ := H.ring
  have hb := H1.get.2
  refine gG func86 ntmps86 ?_
  refine jg O (aP (bP O (dS O func140 (sQ _ hb J9) ?_)))
  rintro _ _ ⟨rfl, rfl⟩
  refine iJ (qy (fZ (bP O (dJ O (bD 62 fJ O aj O (fG aK O hb (rP hs) (eY O (dG results86 O ?_))))))))
  exact ⟨O, O⟩
end
end Go.Proofs.YtpdeedplgmbopaaGreatDoor
end
section
namespace Go.Proofs.YtpdeedplgmbopaaGreatDoor
open Go.RowKit
def abz (E : List (List Int)) (place : Nat) (way : Int) (l : List Int) : Int × List (List Int) × Nat :=
  if way < 0 ∨ 2 < way then (1, E, place)
  else if 1024 < l.length then (3, E, place)
  else if way ≠ 0 ∧ 0 < E.length then
    if 1024 < l.length + (E.getD 0 []).length then (3, E, place)
    else (0, (if way = 1 then E.getD 0 [] ++ l else l ++ E.getD 0 []) :: E.tail, 0)
  else if way = 0 ∧ l.length = 0 then (0, E, place)
  else (0, (l :: E).take 60, 0)
section
variable {w0 w : World} {F : HP} {p place : Nat} {E : List (List Int)} {v : Value} {l : List Int} {way : Int}
end
end Go.Proofs.YtpdeedplgmbopaaGreatDoor
end
section
namespace Go.Proofs.YtpdeedplgmbopaaGreatDoor
open Go.RowKit
open _root_.Go.Proofs.Tryz
def DL (m place : Nat) (n : Int) : Nat := (((place : Int) + n) % (m : Int)).toNat
theorem XJ {m place : Nat} {n : Int} (h : 0 < m) : DL m place n < m := by
  unfold DL
  have h1 := Int.emod_nonneg ((place : Int) + n) (show (m : Int) ≠ 0 by omega)
  have h2 := Int.emod_lt_of_pos ((place : Int) + n) (show (0 : Int) < m by omega)
  omega
theorem Kr (a : Int) {m : Int} (h : 0 < m) : -m < a.tmod m ∧ a.tmod m < m := by
  have h2 := Int.tmod_lt_of_pos a h
  have h3 := Int.tmod_lt_of_pos (-a) h
  rw [Int.neg_tmod] at h3
  omega
theorem Jm (a m : Int) : a.tmod m % m = a % m := by
  rw [Int.tmod_def]
  exact Int.sub_mul_emod_self_left a m (a.tdiv m)
theorem ZO (m place : Nat) (n : Int) (h : 0 < m) : (((place : Int) + n.tmod m).tmod m + m).tmod m = (DL m place n : Int) := by
  have h1 := Kr ((place : Int) + n.tmod m) (show (0 : Int) < m by omega)
  have h2 := Int.emod_nonneg ((place : Int) + n) (show (m : Int) ≠ 0 by omega)
  unfold DL
  rw [Int.toNat_of_nonneg h2, Int.tmod_eq_emod_of_nonneg (by omega), Int.add_emod_right, Jm, Int.add_emod, Jm, ← Int.add_emod]
section
variable {w0 w : World} {F : HP} {p place : Nat} {E : List (List Int)} {v : Value} {l : List Int} {way : Int}
theorem DN {n : Int} (H : V w0 w (iF p [] place • F)) :
    gI prog 87 #[.pointer (some ⟨p, 0, none⟩), .int .i64 n] w fun v' w' => v' = .tuple #[.slice none 0 0, .int .i64 6] ∧ V w0 w' (iF p [] place • F) := by
  obtain ⟨s, h, hs, hh, hE, hp, hm, ho, H1⟩ := H.ring
  have hb := H1.get.2
  refine oq func87 ntmps87 ?_
  refine iE (fU O (vk O (aY (bP O (dS O func140 (sQ _ hb J9) ?_)))))
  rintro _ _ ⟨rfl, rfl⟩
  refine gJ O (qy (bP O (dJ O (bD 62 fJ O aj O (fG aK O hb (rP hs) (aV (dV O O) (gJ O (wcA O (fun h1 => ?_)))))))))
  (try simp only [Z] at h1)
  refine iE (fU O (eY O (aT (aF (Jl results87 O O ?_)))))
  exact ⟨O, H⟩
theorem EM {n : Int} (H : V w0 w (iF p E place • F)) (h0 : 0 < E.length) :
  gI prog 87 #[.pointer (some ⟨p, 0, none⟩), .int .i64 n] w fun v' w' => ∃ u, v' = .tuple #[u, .int .i64 0] ∧
   V w0 w' (kQ 21 .i32 u (E.getD (DL E.length place n) []) • iF p E (DL E.length place n) • F) := by
 obtain ⟨s, h, hs, hh, hE, hp, hm, ho, H⟩ := H.ring
 have hb := H.get.2
 have hlt := XJ (place := place) (n := n) h0
 have acU := ZO E.length place n h0
 have hb1 := Kr n (show (0 : Int) < E.length by omega)
 have hb2 := Kr ((place : Int) + n.tmod E.length) (show (0 : Int) < E.length by omega)
 refine oq func87 ntmps87 ?_
 refine iE (fU O (vk O (aY (bP O (dS O func140 (sQ _ hb J9) ?_)))))
 rintro _ _ ⟨rfl, rfl⟩
 refine gJ O (qy (bP O (dJ O (bD 62 fJ O aj O (fG aK O hb (rP hs) (aV (dV O O) (gJ O (wcB O (fun h1 => ?_)))))))))
 (try simp only [Z] at h1)
 refine bY (aJ (aX (aP ?_)))
 refine zx (n := 30) [0, 1, 2, 3, 4, 5, 6, 7, 8, 9, 10, 11, 12, 13, 14, 15, 16, 17, 18, 19, 20, 21, 22, 23, 24, 25, 26, 27, 28, 29] (fun W => W.heap = w.heap) (by kernel_rfl) (by kernel_rfl) O ?_
 have hS0 : (fun W => W.heap = w.heap) (w.drew) := rfl
 have H5d := H.drew
 refine jG 0 O hS0 O (jG 1 O hS0 O (kD 2 O hS0 O (gV 3 O hS0 63 fJ O aj O ?_)))
 refine jS 4 O hS0 (fun W hW => jX aK O (by rw [hW]; exact hb) (FV hs)) ?_
 refine jG 5 O hS0 O (jG 6 O hS0 O (kD 7 O hS0 O (gV 8 O hS0 62 fJ O aj O ?_)))
 refine jS 9 O hS0 (fun W hW => jX aK O (by rw [hW]; exact hb) (rP hs)) ?_
 refine jB 10 O hS0 (fun _ => OE O O (by omega)) (jB 11 O hS0 (fun _ => gy O O (by omega)) (jG 12 O hS0 O (kD 13 O hS0 O (gV 14 O hS0 62 fJ O aj O ?_))))
 refine jS 15 O hS0 (fun W hW => jX aK O (by rw [hW]; exact hb) (rP hs)) ?_
 refine jB 16 O hS0 (fun _ => OE O O (by omega)) (jG 17 O hS0 O (kD 18 O hS0 O (gV 19 O hS0 62 fJ O aj O ?_)))
 refine jS 20 O hS0 (fun W hW => jX aK O (by rw [hW]; exact hb) (rP hs)) ?_
 refine jB 21 O hS0 (fun _ => gy O O (by omega)) (jG 22 O hS0 O (kD 23 O hS0 O (gV 24 O hS0 62 fJ O aj O ?_)))
 refine jS 25 O hS0 (fun W hW => jX aK O (by rw [hW]; exact hb) (rP hs)) ?_
 refine jB 26 O hS0 (fun _ => OE O O (by omega)) (kD 27 O hS0 O (gV 28 O hS0 63 fJ O aj O ?_))
 refine fM 29 O (by kernel_rfl) (Ad H5d aj O O O (by rw [DK hs]; decide)) ?_
 rintro _ w2 H2
 rw [acU, FW hs] at H2
 refine abb (by kernel_rfl) ?_
 refine qR (aX (bP O (nD O O (bD 63 fJ O aj O (fG aK O H2.get.2 (FV hs) (dS O func141 (LY hs hh (by omega) H2.get.2) ?_))))))
 rintro _ w3 ⟨rfl, hD2⟩
 have H3 := H2.YN hD2
 refine OD (uj (vO O func71 O O) (pq H3 (fun W HW => HW.right.UC (i := DL E.length place n) hlt) (by have := hm (E.getD (DL E.length place n) []) (by rw [List.getD_eq_getElem?_getD, List.getElem?_eq_getElem hlt]; simp); omega))) (lX O) ?_
 rintro u w4 H4
 refine fU O (eY O (Jl results87 O O ?_))
 exact ⟨u, O, (V.EZ hs hh hE (.inl hlt) hm ho H4.d3).swap⟩
theorem V.Sj {s : List Value} {h : Nat} (H : V w0 w (yI s h E • F)) : V w0 w (yI s h E • yI s h E • F) := H.qO
theorem Sl {s : List Value} {h n p : Nat} (ho : ∀ v ∈ s, v.oneCell' = true) : ∀ v ∈ (iC s h n p).toList, v.oneCell' = true := by
  intro v hv
  simp [iC] at hv
  rcases hv with rfl | hv | rfl | rfl | rfl <;> first | rfl | exact ho v hv
theorem zF (H : V w0 w (iF p E place • F)) :
    gI prog 85 #[.pointer (some ⟨p, 0, none⟩)] w fun v' w' => ∃ q, v' = .pointer (some ⟨q, 0, none⟩) ∧ V w0 w' (iF q E place • iF p E place • F) := by
  obtain ⟨s, h, hs, hh, hE, hp, hm, ho, H⟩ := H.ring
  have hb := H.get.2
  refine gG func85 ntmps85 ?_
  refine jg O (aP (bP O (dS O func140 (sQ _ hb J9) ?_)))
  rintro _ _ ⟨rfl, rfl⟩
  refine iJ (qy (fZ (bP O (dJ O (aV (eU fJ O sizeOf207 (DK hs) O hb) (jr (EY H zeroValue207) ?_))))))
  rintro _ w2 ⟨b2, rfl, H2⟩
  refine aH (xq H2 sizeOf207 (DK hs) O O O (Sl ho)) ?_
  rintro _ w3 H3
  refine iJ (jC O (dG results85 O ?_))
  exact ⟨_, O, V.EZ hs hh hE hp hm ho (V.EZ hs hh hE hp hm ho (H3.rot.Sj.r4)).swap.rot⟩
end
section
variable {w0 w : World} {F : HP} {p place : Nat} {E : List (List Int)}
theorem OY (H : V w0 w (iF p E place • F)) : E.length ≤ 60 ∧ (place < E.length ∨ place = 0) ∧ ∀ e ∈ E, e.length ≤ 1024 := by
  obtain ⟨s, h, hs, hh, hE, hpl, hE2, hs1, H1⟩ := H.ring
  exact ⟨hE, hpl, hE2⟩
theorem EN {n : Int} (H : V w0 w (iF p E place • F)) : gI prog 87 #[.pointer (some ⟨p, 0, none⟩), .int .i64 n] w fun v w' => ∃ u, v = .tuple #[u, .int .i64 (if E.length = 0 then 6 else 0)] ∧
    V w0 w' (kQ 21 .i32 u (if E.length = 0 then [] else E.getD (DL E.length place n) []) • iF p E (if E.length = 0 then place else DL E.length place n) • F) := by
  by_cases h0 : E.length = 0
  · obtain rfl := List.eq_nil_of_length_eq_zero h0
    simp only [List.length_nil, if_true]
    exact (DN H).mono fun v w' h => ⟨_, h.1, h.2.iP none⟩
  · simp only [if_neg h0]
    exact (EM H (by omega)).mono fun v w' h => h
end
end Go.Proofs.YtpdeedplgmbopaaGreatDoor
end
section
namespace Go.Proofs.YtpdeedplgmbopaaGreatDoor
open Go.RowKit
def y5 (I : Hp) (k : IntKind) (vs : List Value) (ls : List (List Int)) : Prop := vs.length = ls.length ∧ ∀ j, j < ls.length → CB I k (vs.getD j undef) (ls.getD j [])
def zG (k : IntKind) (vs : List Value) (ls : List (List Int)) : HP := know (fun I => y5 I k vs ls) fun _ _ hl h => ⟨h.1, fun j hj => (h.2 j hj).mono hl⟩
def LL (e : TypeId) (k : IntKind) (v : Value) (ls : List (List Int)) : HP := rH fun vs => Row e 1 v ls.length vs • zG k vs ls
theorem sU {α : Type _} {l m : List α} {j : Nat} {d : α} (h : j < l.length) : (l ++ m).getD j d = l.getD j d := by simp [List.getD_eq_getElem?_getD, List.getElem?_append_left h]
theorem qX {α : Type _} {l m : List α} {j : Nat} {d : α} (h : l.length ≤ j) : (l ++ m).getD j d = m.getD (j - l.length) d := by simp [List.getD_eq_getElem?_getD, List.getElem?_append_right h]
theorem Jo {α : Type _} {l : List α} {i j : Nat} {d : α} : (l.drop i).getD j d = l.getD (i + j) d := by simp [List.getD_eq_getElem?_getD]
theorem DR {α : Type _} {l : List α} {i j : Nat} {d : α} (h : j < i) : (l.take i).getD j d = l.getD j d := by simp [List.getD_eq_getElem?_getD, List.getElem?_take, h]
theorem vC {α : Type _} {l : List α} {j : Nat} {d : α} (h : j < l.length) : l.getD j d ∈ l := by rw [List.getD_eq_getElem?_getD, List.getElem?_eq_getElem h]; exact List.getElem_mem h
theorem y5.app {I : Hp} {k : IntKind} {vs us : List Value} {ls ms : List (List Int)} (h : y5 I k vs ls) (g : y5 I k us ms) : y5 I k (vs ++ us) (ls ++ ms) := by
  refine ⟨by simp [h.1, g.1], fun j hj => ?_⟩
  by_cases hl : j < ls.length
  · rw [sU (by rw [h.1]; exact hl), sU hl]; exact h.2 j hl
  · have hj' : j - ls.length < ms.length := by simp at hj; omega
    rw [qX (by rw [h.1]; omega), qX (by omega), h.1]; exact g.2 _ hj'
theorem y5.drop {I : Hp} {k : IntKind} {vs : List Value} {ls : List (List Int)} (h : y5 I k vs ls) (i : Nat) : y5 I k (vs.drop i) (ls.drop i) := by
  refine ⟨by simp [h.1], fun j hj => ?_⟩
  rw [Jo, Jo]
  exact h.2 _ (by simp at hj; omega)
theorem y5.take {I : Hp} {k : IntKind} {vs : List Value} {ls : List (List Int)} (h : y5 I k vs ls) (i : Nat) : y5 I k (vs.take i) (ls.take i) := by
  refine ⟨by simp [h.1], fun j hj => ?_⟩
  simp at hj
  rw [DR (by omega), DR (by omega)]
  exact h.2 _ (by omega)
theorem CB.one {I : Hp} {k : IntKind} {v : Value} {l : List Int} (h : CB I k v l) : y5 I k [v] [l] := ⟨rfl, fun j hj => by
  obtain rfl : j = 0 := by simp at hj; omega
  exact h⟩
theorem CB.UD {I : Hp} {k : IntKind} {v : Value} {l : List Int} (h : CB I k v l) : v.oneCell' = true := by obtain ⟨a, c, rfl, _⟩ := h; rfl
section
variable {w0 w : World} {F : HP} {e : TypeId} {k : IntKind} {v : Value} {vs us : List Value} {ls ms : List (List Int)} {l : List Int}
theorem V.XK (H : V w0 w (zG k vs ls • F)) {j : Nat} (hj : j < ls.length) : fP w k (vs.getD j undef) (ls.getD j []) := let ⟨I, h, hI⟩ := H.ql; (h.2 j hj).rd hI
theorem V.UE (H : V w0 w (zG k vs ls • F)) : vs.length = ls.length := let ⟨I, h, hI⟩ := H.ql; h.1
theorem V.LZ (H : V w0 w F) : V w0 w (zG k [] [] • F) := H.uN fun I => ⟨rfl, fun j hj => by simp at hj⟩
theorem V.Sm (H : V w0 w (zG k vs ls • mO k v l • F)) : V w0 w (zG k (vs ++ [v]) (ls ++ [l]) • F) := H.DC (sZ (fun I h g => h.app g.one) F)
theorem V.ll (H : V w0 w (LL e k v ls • F)) : ∃ vs, V w0 w (Row e 1 v ls.length vs • zG k vs ls • F) := let ⟨vs, h⟩ := H.lJ; ⟨vs, h.flat⟩
theorem V.Y1 (H : V w0 w (Row e 1 v ls.length vs • zG k vs ls • F)) : V w0 w (LL e k v ls • F) := V.iy vs H.deep
theorem V.UF {n : Nat} (H : V w0 w (Row e 1 v n vs • zG k vs ls • F)) : V w0 w (LL e k v ls • F) := by
  have h1 := H.wQ
  have h2 := H.swap.UE
  obtain rfl : n = ls.length := by omega
  exact H.Y1
theorem Rd.abA {n : Nat} {xs : List Value} (hr : Rd w 1 v n xs) {i : Nat} (h : i ≤ n) : Rd w 1 (wJ 1 0 i v) i (xs.take i) := by
  have h1 := hr.cut (Nat.zero_le i) h
  simpa using h1
end
theorem UG {α : Type _} {enc : α → List Value} {sz : Nat} (he : ∀ a, (enc a).length = sz) (l : List α) : (l.flatMap enc).length = l.length * sz := by
  induction l with
  | nil => simp
  | cons a l ih => simp [he, ih, Nat.add_mul, Nat.add_comm]
theorem rQ {α : Type _} {enc : α → List Value} {sz : Nat} (he : ∀ a, (enc a).length = sz) {l : List α} {k : Nat} (hk : k < l.length) (d : α) : ((l.flatMap enc).drop (k * sz)).take sz = enc (l.getD k d) := by
  have h1 : l = l.take k ++ l.getD k d :: l.drop (k + 1) := by
    rw [List.getD_eq_getElem?_getD, List.getElem?_eq_getElem hk]
    simp
  have h2 : ((l.take k).flatMap enc).length = k * sz := by rw [UG he, List.length_take, Nat.min_eq_left (by omega)]
  conv => lhs; rw [h1]
  rw [List.flatMap_append, List.drop_append, h2]
  simp [h2, List.take_append, he]
theorem qI {P : Program} {L : List (Nat × Value)} {w : World} {ty : TypeId} {x : Operand} {t : TypeId} {d : TypeDesc} {b o n c sz n' k : Nat} {xs ys : List Value} (hr : Rd w sz (.slice (some ⟨b, o, none⟩) n c) n' xs) (hk : k < n') (hu : P.underlying t = some d) (hd : JY d = true) (hs : ∀ w, (sizeOf t).run P w = .ok sz w)
    (hx : ev L x = some (.pointer (some ⟨b, o + (k : Int).toNat * sz, none⟩))) (hy : (xs.drop (k * sz)).take sz = ys) (hl : ys.length = sz) : Val P L (.load t x) ty w (.agg ys.toArray) w :=
  yE (by rw [hu]; rfl) (Ji hu hd) hs hl hx (fun j u hj => by
    have hjl : j < sz := by rw [← hl]; exact (List.getElem?_eq_some_iff.1 hj).1
    rw [hr.atS hk hjl, List.getD_eq_getElem?_getD]
    rw [← hy, List.getElem?_take, if_pos hjl, List.getElem?_drop] at hj
    rw [hj]; rfl)
end Go.Proofs.YtpdeedplgmbopaaGreatDoor
end
section
namespace Go.Proofs.YtpdeedplgmbopaaGreatDoor
open Go.RowKit
open _root_.Go.Proofs.Tryz
section
variable {w0 w : World} {F : HP} {v d s z d2 z2 u1 u2 u3 : Value} {L dl il dl2 il2 l1 l2 l3 : List Int} {a a2 : Int}
def acV (L : List Int) (a : Int) (dl : List Int) : Bool := decide (0 ≤ a ∧ a + dl.length ≤ L.length) && ((L.drop a.toNat).take dl.length == dl)
def uE (L : List Int) (a : Int) (dl il : List Int) : Int := if acV L a dl then (if 1024 < (L.length : Int) - dl.length + il.length then 3 else 0) else 1
def uL (L : List Int) (a : Int) (dl il : List Int) : List Int := if uE L a dl il = 0 then L.take a.toNat ++ il ++ L.drop (a.toNat + dl.length) else []
abbrev edV (a : Int) (d z : Value) : Value := .agg #[.int .i64 a, d, z]
theorem uP (H : V w0 w F) (hd : jZ w0 F .i32 d dl) (hi : jZ w0 F .i32 z il) (b2 : dl.length ≤ 35184372087808) (b3 : il.length ≤ 35184372087808) :
  gI prog 179 #[edV a d z] w fun v' w' => ∃ d' s', v' = edV a d' s' ∧ V w0 w' (kQ 21 .i32 d' dl • kQ 21 .i32 s' il • F) := by
 refine gG func179 ntmps179 ?_
 refine iE (jr (iD (l := [_, _, _]) H O O) ?_)
 rintro _ w1 ⟨b1, rfl, H1⟩
 refine jr (fH (l := [_, _, _]) H1 gZ O) ?_
 rintro _ w2 ⟨b2, rfl, H2⟩
 refine pJ ?_
 have UH := H2.drew
 have xY := V.kp (UH.f2.f2)
 refine yC [1, 3, 6] xY O (gV 0 O xY 0 dA O aj O (jS 1 O xY (fun W hW => jX aK O ((Kp.h hW).f2).get.2 O) (gV 2 O xY 1 dA O dH O (jS 3 O xY (fun W hW => jX aB O ((Kp.h hW).f2).get.2 O) (gV 5 O xY 2 dA O dH O (jS 6 O xY (fun W hW => jX aB O ((Kp.h hW).f2).get.2 O) (og 4 O (yF O func71 (pq UH (fun W HW => hd _ (HW.right.right)) (by omega))) ?_)))))))
 rintro u3 w3 H3
 have yJ := V.kp (H3.f3.f3.f3)
 refine dU yJ (fun W hW => (Kp.h hW).right.f2.f2) ?_
 refine og 7 O (yF O func71 (pq H3 (fun W HW => hi _ (HW.right.right.right)) (by omega))) ?_
 rintro u4 w4 H4
 have xu := V.kp (H4.f4.f4.f4.f4)
 refine dU xu (fun W hW => (Kp.h hW).right.f3.f3.f3) ?_
 obtain ⟨au3, cu3, eu3, -⟩ := fP.open ((H4.f2).aS)
 subst eu3
 obtain ⟨au4, cu4, eu4, -⟩ := fP.open ((H4).aS)
 subst eu4
 refine jB 8 O xu (fun _ => oZ (pl := #[(0, 1), (1, 1), (2, 1)]) (#[_, _, _]) dA gZ (fun w => by kernel_rfl) O (O)) ?_
 refine fM 9 O (by kernel_rfl) (bU 0 (l' := [_, _, _]) (us := [_, _, _]) H4.f3 dW O O O (ay (aW (by first | rfl | exact Rd.one ((H4.f2).aS)) (aW (by first | rfl | exact Rd.one ((H4).aS)) bF))) O O) ?_
 rintro _ w7 H7
 have Ip := V.kp (H7.f4.f4.f4.f4)
 refine gW Ip (by kernel_rfl) ?_
 refine qR (aX (mD ?_))
 refine pO (.inl O) (JX results179 O dA O (by rw [UJ]; rfl) (H7).get.2) ?_
 exact ⟨_, _, O, H7.right.f3.right.f2⟩
theorem DT (H : V w0 w F) (hd : jZ w0 F .i32 d dl) (hi : jZ w0 F .i32 z il) (b2 : dl.length ≤ 35184372087808) (b3 : il.length ≤ 35184372087808) :
  gI prog 198 #[edV a d z] w fun v' w' => ∃ d' s', v' = edV a d' s' ∧ V w0 w' (kQ 21 .i32 d' il • kQ 21 .i32 s' dl • F) := by
 refine gG func198 ntmps198 ?_
 refine iE (jr (iD (l := [_, _, _]) H O O) ?_)
 rintro _ w1 ⟨b1, rfl, H1⟩
 refine jr (fH (l := [_, _, _]) H1 gZ O) ?_
 rintro _ w2 ⟨b2, rfl, H2⟩
 refine Xg (bD 0 dA O aj O (fG aK O (H2.f2).get.2 O (bD 2 dA O dH O (fG aB O (H2.f2).get.2 O (bD 1 dA O dH O (fG aB O (H2.f2).get.2 O ?_))))))
 obtain ⟨az, cz, ez, -⟩ := fP.open (hi _ (H2.right.right))
 subst ez
 obtain ⟨ad, cd, ed, -⟩ := fP.open (hd _ (H2.right.right))
 subst ed
 refine aV (oZ (pl := #[(0, 1), (1, 1), (2, 1)]) (#[_, _, _]) dA gZ (fun w => by kernel_rfl) O (O)) (dS O func179 (uP H2 (fun W HW => hi _ (HW.right.right)) (fun W HW => hd _ (HW.right.right)) (by omega) (by omega)) ?_)
 rintro _ w5 ⟨d5, s5, rfl, H5⟩
 refine aH (bU 0 (l' := [_, _, _]) (us := [_, _, _]) H5.f3 dW O O O (ay (aW (by first | rfl | exact Rd.one ((H5).aS)) (aW (by first | rfl | exact Rd.one ((H5.f2).aS)) bF))) O O) ?_
 rintro _ w6 H6
 refine YW ?_
 refine pO (.inl O) (JX results198 O dA O (by rw [UJ]; rfl) (H6).get.2) ?_
 exact ⟨_, _, O, H6.right.f3.right.f2.f2⟩
end
end Go.Proofs.YtpdeedplgmbopaaGreatDoor
end
section
namespace Go.Proofs.YtpdeedplgmbopaaGreatDoor
open Go.RowKit
section
variable {w0 w : World} {F : HP} {v d s z d2 z2 u1 u2 u3 : Value} {L dl il dl2 il2 l1 l2 l3 : List Int} {a a2 : Int}
def jK (a a2 : Int) (dl il dl2 il2 : List Int) : Nat := if dl2.length = 0 ∧ a2 = a + il.length then 1 else if il.length = 0 ∧ il2.length = 0 ∧ a = a2 + dl2.length then 2 else 0
def jA (k : Nat) (a a2 : Int) : Int := if k = 1 then a else if k = 2 then a2 else 0
def jD (k : Nat) (dl dl2 : List Int) : List Int := if k = 1 then dl else if k = 2 then dl2 ++ dl else []
def jI (k : Nat) (il il2 : List Int) : List Int := if k = 1 then il ++ il2 else []
end
structure dQ where
  a : Int
  d : Value
  dl : List Int
  i : Value
  il : List Int
instance : Inhabited dQ := ⟨⟨0, .slice none 0 0, [], .slice none 0 0, []⟩⟩
def dQ.enc (e : dQ) : List Value := [.int .i64 e.a, e.d, e.i]
theorem dQ.CS (e : dQ) : e.enc.length = 3 := rfl
def dQ.Imm (I : Hp) (e : dQ) : Prop := CB I .i32 e.d e.dl ∧ CB I .i32 e.i e.il
theorem dQ.Imm.mono {I I' : Hp} {e : dQ} (hl : Hp.le I I') (h : e.Imm I) : e.Imm I' := ⟨h.1.mono hl, h.2.mono hl⟩
def dQ.says (e : dQ) : Int × List Int × List Int := (e.a, e.dl, e.il)
def EO (I : Hp) (es : List dQ) : Prop := ∀ k, k < es.length → (es.getD k default).Imm I
theorem EO.mono {I I' : Hp} {es : List dQ} (hl : Hp.le I I') (h : EO I es) : EO I' es := fun k hk => (h k hk).mono hl
theorem EO.app {I : Hp} {es fs : List dQ} (h : EO I es) (g : EO I fs) : EO I (es ++ fs) := fun k hk => by
  by_cases hl : k < es.length
  · rw [sU hl]; exact h k hl
  · rw [qX (by omega)]; exact g _ (by simp at hk; omega)
theorem EO.one {I : Hp} {e : dQ} (h : e.Imm I) : EO I [e] := fun k hk => by
  obtain rfl : k = 0 := by simp at hk; omega
  exact h
def kE (es : List dQ) : HP := know (fun I => EO I es) fun _ _ hl h => h.mono hl
def edK (e : dQ) : HP := know (fun I => e.Imm I) fun _ _ hl h => h.mono hl
def Jp (v : Value) (es : List dQ) : HP := Row 189 3 v es.length (es.flatMap dQ.enc) • kE es
def Aw (I : Hp) (sz : Nat) (v : Value) (n : Nat) (xs : List Value) : Prop := xs.length = n * sz ∧ ∃ a c, v = .slice a n c ∧ n ≤ c ∧ (c : Int) ≤ 9223372036854775807 ∧
  (0 < n → ∃ b o cs e fr, a = some ⟨b, o, none⟩ ∧ I b = some (.cells cs e fr) ∧ ∀ j, j < n * sz → cs[o + j]? = some (xs.getD j undef))
theorem Aw.mono {I I' : Hp} {sz n : Nat} {v : Value} {xs : List Value} (hl : Hp.le I I') (h : Aw I sz v n xs) : Aw I' sz v n xs := by
  obtain ⟨h0, a, c, h1, h2, h3, h4⟩ := h
  exact ⟨h0, a, c, h1, h2, h3, fun hp => let ⟨b, o, cs, e, fr, e1, e2, e3⟩ := h4 hp; ⟨b, o, cs, e, fr, e1, hl _ _ e2, e3⟩⟩
theorem Aw.rd {w : World} {m : Nat} {I : Hp} {sz n : Nat} {v : Value} {xs : List Value} (h : Aw I sz v n xs) (hI : ∀ k o, I k = some o → m ≤ k ∧ w.heap[k]? = some o) : Rd w sz v n xs := by
  obtain ⟨h0, a, c, h1, h2, h3, h4⟩ := h
  exact ⟨h0, a, c, h1, h2, h3, fun hp => let ⟨b, o, cs, e, fr, e1, e2, e3⟩ := h4 hp; ⟨b, o, e1, fun j hj => je (hI _ _ e2).2 (e3 j hj)⟩⟩
theorem Aw.UD {I : Hp} {sz n : Nat} {v : Value} {xs : List Value} (h : Aw I sz v n xs) : v.oneCell' = true := by obtain ⟨_, a, c, rfl, _⟩ := h; rfl
def ElI (I : Hp) (v : Value) (es : List dQ) : Prop := Aw I 3 v es.length (es.flatMap dQ.enc) ∧ EO I es
theorem ElI.mono {I I' : Hp} {v : Value} {es : List dQ} (hl : Hp.le I I') (h : ElI I v es) : ElI I' v es := ⟨h.1.mono hl, h.2.mono hl⟩
def AQ (v : Value) (es : List dQ) : HP := know (fun I => ElI I v es) fun _ _ hl h => h.mono hl
def Bo (I : Hp) (gs : List (Value × List dQ)) : Prop := ∀ k, k < gs.length → ElI I (gs.getD k default).1 (gs.getD k default).2
theorem Bo.mono {I I' : Hp} {gs : List (Value × List dQ)} (hl : Hp.le I I') (h : Bo I gs) : Bo I' gs := fun k hk => (h k hk).mono hl
theorem Bo.app {I : Hp} {es fs : List (Value × List dQ)} (h : Bo I es) (g : Bo I fs) : Bo I (es ++ fs) := fun k hk => by
  by_cases hl : k < es.length
  · rw [sU hl]; exact h k hl
  · rw [qX (by omega)]; exact g _ (by simp at hk; omega)
theorem Bo.one {I : Hp} {v : Value} {es : List dQ} (h : ElI I v es) : Bo I [(v, es)] := fun k hk => by
  obtain rfl : k = 0 := by simp at hk; omega
  exact h
theorem Bo.take {I : Hp} {gs : List (Value × List dQ)} (h : Bo I gs) (n : Nat) : Bo I (gs.take n) := fun k hk => by
  simp at hk
  rw [DR (by omega)]
  exact h k (by omega)
def nJ (gs : List (Value × List dQ)) : HP := know (fun I => Bo I gs) fun _ _ hl h => h.mono hl
def Bq (v : Value) (gs : List (Value × List dQ)) : HP := Row 80 1 v gs.length (gs.map (·.1)) • nJ gs
section
variable {w0 w : World} {F : HP} {v u : Value} {es fs : List dQ} {e : dQ} {gs : List (Value × List dQ)} {a : Int} {d i : Value} {dl il : List Int}
theorem V.L6 (H : V w0 w F) : V w0 w (kE [] • F) := H.uN fun I k hk => by simp at hk
theorem V.FX (H : V w0 w F) : V w0 w (nJ [] • F) := H.uN fun I k hk => by simp at hk
theorem V.qY (H : V w0 w F) (a : Option Addr) : V w0 w (Jp (.slice a 0 0) [] • F) := (H.L6.iP (e := 189) (sz := 3) a).deep
theorem V.FY (H : V w0 w F) (a : Option Addr) : V w0 w (Bq (.slice a 0 0) [] • F) := (H.FX.iP (e := 80) (sz := 1) a).deep
theorem V.ZP (H : V w0 w (Jp v es • F)) : V w0 w (Row 189 3 v es.length (es.flatMap dQ.enc) • kE es • F) := H.flat
theorem V.XL (H : V w0 w (Bq v gs • F)) : V w0 w (Row 80 1 v gs.length (gs.map (·.1)) • nJ gs • F) := H.flat
theorem V.CU (H : V w0 w (Row 189 3 v (es.length + 1) (es.flatMap dQ.enc ++ [.int .i64 a, d, i]) • mO .i32 d dl • mO .i32 i il • kE es • F)) : V w0 w (Jp v (es ++ [⟨a, d, dl, i, il⟩]) • F) := by
  have h1 : V w0 w (mO .i32 d dl • mO .i32 i il • kE es • Row 189 3 v (es.length + 1) (es.flatMap dQ.enc ++ [.int .i64 a, d, i]) • F) := H.of_eq (by ac_rfl)
  have h2 : V w0 w (edK ⟨a, d, dl, i, il⟩ • kE es • Row 189 3 v (es.length + 1) (es.flatMap dQ.enc ++ [.int .i64 a, d, i]) • F) := h1.DC (sZ (fun I h g => ⟨h, g⟩) _)
  have h3 : V w0 w (kE (es ++ [⟨a, d, dl, i, il⟩]) • Row 189 3 v (es.length + 1) (es.flatMap dQ.enc ++ [.int .i64 a, d, i]) • F) := h2.DC (sZ (fun I h g => g.app (EO.one h)) _)
  refine V.deep (h3.swap.of_eq ?_)
  rw [List.length_append, List.flatMap_append]
  simp [dQ.enc]
theorem V.oN (H : V w0 w (Jp v es • F)) : V w0 w (AQ v es • F) := by
  have hl := H.ZP.wQ
  have H := H.ZP
  rcases H.sW with ⟨a, rfl, h1, h2, H1⟩ | ⟨g, o, c, cur, rfl, h2, h3, h4, h5, H1⟩
  · refine H1.DC (oz (fun I hI => ⟨⟨hl, a, 0, by rw [h1], by omega, by decide, fun h => by omega⟩, hI⟩) F)
  · exact H1.freeze.DC (sZ (fun I hI hE => ⟨⟨hl, _, c, rfl, h2, h3, fun _ => ⟨g, o, cur, _, (0, 0), rfl, hI, h5⟩⟩, hE⟩) F)
theorem V.uo (H : V w0 w (AQ v es • F)) : Rd w 3 v es.length (es.flatMap dQ.enc) := let ⟨I, h, hI⟩ := H.ql; h.1.rd hI
theorem V.abB (H : V w0 w (AQ v es • F)) {k : Nat} (hk : k < es.length) : fP w .i32 (es.getD k default).d (es.getD k default).dl := let ⟨I, h, hI⟩ := H.ql; (h.2 k hk).1.rd hI
theorem V.abC (H : V w0 w (AQ v es • F)) {k : Nat} (hk : k < es.length) : fP w .i32 (es.getD k default).i (es.getD k default).il := let ⟨I, h, hI⟩ := H.ql; (h.2 k hk).2.rd hI
theorem V.L8 (H : V w0 w (nJ gs • F)) {k : Nat} (hk : k < gs.length) : V w0 w (AQ (gs.getD k default).1 (gs.getD k default).2 • nJ gs • F) := H.qO.DC (oz (fun I h => h k hk) _)
theorem V.L9 (H : V w0 w (nJ gs • F)) (n : Nat) : V w0 w (nJ (gs.take n) • F) := H.DC (oz (fun I h => h.take n) _)
theorem V.qJ (H : V w0 w (Row 80 1 v (gs.length + 1) (gs.map (·.1) ++ [u]) • AQ u es • nJ gs • F)) : V w0 w (Bq v (gs ++ [(u, es)]) • F) := by
  have h1 : V w0 w (AQ u es • nJ gs • Row 80 1 v (gs.length + 1) (gs.map (·.1) ++ [u]) • F) := H.of_eq (by ac_rfl)
  have h3 : V w0 w (nJ (gs ++ [(u, es)]) • Row 80 1 v (gs.length + 1) (gs.map (·.1) ++ [u]) • F) := h1.DC (sZ (fun I h g => g.app (Bo.one h)) _)
  refine V.deep (h3.swap.of_eq ?_)
  rw [List.length_append, List.map_append]
  rfl
theorem V.zH (H : V w0 w (kE es • F)) : ∀ x ∈ es.flatMap dQ.enc, x.oneCell' = true := by
  obtain ⟨I, h, hI⟩ := H.ql
  intro x hx
  obtain ⟨e, he, hx⟩ := List.mem_flatMap.1 hx
  obtain ⟨k, hk, rfl⟩ := List.getElem_of_mem he
  have := h k hk
  rw [List.getD_eq_getElem?_getD, List.getElem?_eq_getElem hk] at this
  simp [dQ.enc] at hx
  rcases hx with rfl | rfl | rfl
  · rfl
  · exact this.1.UD
  · exact this.2.UD
end
end Go.Proofs.YtpdeedplgmbopaaGreatDoor
end
