import Derived.Test.YtpdeedplgmbopaaGreatDoorZ4
import Derived.Test.YtpdeedplgmbopaaGreatDoorZ5
import Derived.Test.YtpdeedplgmbopaaGreatDoorZ3
set_option linter.unusedSimpArgs false
set_option linter.unusedVariables false
/- Texts of mine, joined, their names in short: Buf Buf2 Buf3 LineP Move BLive Same Apply BufP Ring Ring2 Ring3 RingAny LL Flat Undo1 Undo2 Eds. -/
section
namespace Go.Proofs.YtpdeedplgmbopaaGreatDoor
open Go.RowKit
open _root_.Go.Proofs.Tryz
theorem L8 {s i j : Nat} {v : Value} (h : v.oneCell' = true) : (wR s i j v).oneCell' = true := by cases v <;> simp_all [wR, Value.oneCell']
def lD (v : Value) (f t pt mk : Int) : Array Value := #[.bool true, v, .int .i64 f, .int .i64 t, .int .i64 pt, .int .i64 mk]
theorem XI {a b : Value} (h : a.oneCell' = true) (k : b.oneCell' = true) : ∀ u ∈ [a, b], u.oneCell' = true := by
  intro u hu; simp at hu; rcases hu with rfl | rfl
  · exact h
  · exact k
section
variable {v u : Value} {f t pt mk x : Int}
theorem FX : (lD v f t pt mk).size = 6 := rfl
theorem J8 : (lD v f t pt mk).setIfInBounds 2 (.int .i64 x) = lD v x t pt mk := rfl
theorem O4 : (lD v f t pt mk).setIfInBounds 3 (.int .i64 x) = lD v f x pt mk := rfl
theorem Iu : (lD v f t pt mk).setIfInBounds 4 (.int .i64 x) = lD v f t x mk := rfl
end
def iZ (p : Nat) (L : List Int) (pt mk : Int) : HP := rQ fun (x : Value × List Int × Nat × Nat) =>
  fact (x.2.2.1 ≤ x.2.2.2 ∧ x.2.2.2 ≤ x.2.1.length ∧ L = x.2.1.take x.2.2.1 ++ x.2.1.drop x.2.2.2 ∧ L.length ≤ 1024 ∧ x.2.1.length ≤ 4096 ∧ (0 ≤ pt ∧ pt ≤ L.length) ∧ (-1 ≤ mk ∧ mk ≤ L.length)) •
    dL p (.cells (lD x.1 x.2.2.1 x.2.2.2 pt mk) 197 (0, 0)) • kW 21 .i32 x.1 x.2.1
section
variable {w0 w : World} {F : HP} {p : Nat} {L : List Int} {pt mk : Int}
theorem V.buf (H : V w0 w (iZ p L pt mk • F)) : ∃ (a : Option Addr) (c : Nat) (xs : List Int) (f t : Nat), f ≤ t ∧ t ≤ xs.length ∧ L = xs.take f ++ xs.drop t ∧ L.length ≤ 1024 ∧ xs.length ≤ 4096 ∧ (0 ≤ pt ∧ pt ≤ L.length) ∧ (-1 ≤ mk ∧ mk ≤ L.length) ∧ xs.length ≤ c ∧ (c : Int) ≤ 9223372036854775807 ∧ L.length + t = xs.length + f ∧
    V w0 w (dL p (.cells (lD (.slice a xs.length c) f t pt mk) 197 (0, 0)) • kW 21 .i32 (.slice a xs.length c) xs • F) := by
  obtain ⟨⟨v, xs, f, t⟩, H⟩ := H.lQ
  obtain ⟨⟨h1, h2, h3, h4, h5, h6, h7⟩, H⟩ := H.flat.fact
  have H := H.flat
  obtain ⟨a, c, hv, hc1, hc2, _⟩ := (H.swap.aS).form
  dsimp only at *
  subst hv
  refine ⟨a, c, xs, f, t, h1, h2, h3, h4, h5, h6, h7, hc1, hc2, ?_, H⟩
  rw [h3]; simp; omega
theorem V.FY {v : Value} {xs : List Int} {f t : Nat} (h1 : f ≤ t) (h2 : t ≤ xs.length) (h3 : L = xs.take f ++ xs.drop t) (h4 : L.length ≤ 1024) (h5 : xs.length ≤ 4096) (h6 : 0 ≤ pt ∧ pt ≤ L.length) (h7 : -1 ≤ mk ∧ mk ≤ L.length)
    (H : V w0 w (dL p (.cells (lD v f t pt mk) 197 (0, 0)) • kW 21 .i32 v xs • F)) : V w0 w (iZ p L pt mk • F) :=
  V.iy (v, xs, f, t) (V.deep (V.kD ⟨h1, h2, h3, h4, h5, h6, h7⟩ (V.deep H)))
theorem rC (t : TypeId) {cs : Array Value} {fr : Nat × Nat} {m : Bool} (hb : w.heap[p]? = some (.cells cs t fr)) (h0 : cs[0]? = some (.bool m)) :
    gJ prog 131 #[.pointer (some ⟨p, 0, none⟩)] w fun v w' => v = .bool (!m) ∧ w = w' := by
  refine iG func131 ntmps131 ?_
  refine jr O (bT O (aV (iR qo O O) (XB O (fun h1 => ?_))))
  (try simp only [Z] at h1)
  refine bC (bP O (bC (dJ O (bC (bD 0 eP O aO O (bC (fZ bK O hb h0 (bC (aV (kT O) (iL O O (fC O (dH results131 O ?_))))))))))))
  exact ⟨O, O⟩
theorem L9 (H : V w0 w (iZ p L pt mk • F)) : gJ prog 132 #[.pointer (some ⟨p, 0, none⟩)] w fun v w' => v = .int .i64 L.length ∧ zB w w' := by
 obtain ⟨a, c, xs, f, t, h1, h2, h3, h4, h5, h6, h7, hc1, hc2, hl, H1⟩ := H.buf
 have hb := H1.get.2
 refine iG func132 ntmps132 ?_
 refine jr O (aP (bT O (dY O func131 (rC _ hb O) ?_)))
 rintro _ _ ⟨rfl, rfl⟩
 refine iJ (qF (gq (aP ?_)))
 refine zI (n := 16) [0, 1, 2, 3, 4, 5, 6, 7, 8, 9, 10, 11, 12, 13, 14, 15] (fun W => W.heap = w.heap) (by kernel_rfl) (by kernel_rfl) O ?_
 have hS0 : (fun W => W.heap = w.heap) (w.drew) := rfl
 have H3d := H1.drew
 refine jB 0 O hS0 O (kJ 1 O hS0 O (gU 2 O hS0 1 eP O dM O ?_))
 refine jT 3 O hS0 (fun W hW => kC ay O (by rw [hW]; exact hb) O) ?_
 refine ji 4 O hS0 (fun _ => nI ay O) (jB 5 O hS0 O (kJ 6 O hS0 O (gU 7 O hS0 3 eP O aj O ?_)))
 refine jT 8 O hS0 (fun W hW => kC aK O (by rw [hW]; exact hb) O) ?_
 refine jB 9 O hS0 O (kJ 10 O hS0 O (gU 11 O hS0 2 eP O aj O ?_))
 refine jT 12 O hS0 (fun W hW => kC aK O (by rw [hW]; exact hb) O) ?_
 refine ji 13 O hS0 (fun _ => kU O O (by omega)) (ji 14 O hS0 (fun _ => kU O O (by omega)) (ji 15 O hS0 (fun _ => dN O) (qU (aX (lS (dH results132 O ?_))))))
 exact ⟨by congr 1; omega, zB.refl _ |>.drew⟩
theorem Iw (H : V w0 w (iZ p L pt mk • F)) : gJ prog 127 #[.pointer (some ⟨p, 0, none⟩)] w fun v w' => v = .int .i64 pt ∧ w = w' := by
  obtain ⟨a, c, xs, f, t, h1, h2, h3, h4, h5, h6, h7, hc1, hc2, hl, H1⟩ := H.buf
  have hb := H1.get.2
  refine iG func127 ntmps127 ?_
  refine jr O (aP (bT O (dY O func131 (rC _ hb O) ?_)))
  rintro _ _ ⟨rfl, rfl⟩
  refine iJ (qF (gq (bT O (dJ O (bD 4 eP O aj O (fZ aK O hb O (fC O (dH results127 O ?_))))))))
  exact ⟨O, O⟩
theorem J9 (H : V w0 w (iZ p L pt mk • F)) : gJ prog 128 #[.pointer (some ⟨p, 0, none⟩)] w fun v w' => v = .int .i64 mk ∧ w = w' := by
  obtain ⟨a, c, xs, f, t, h1, h2, h3, h4, h5, h6, h7, hc1, hc2, hl, H1⟩ := H.buf
  have hb := H1.get.2
  refine iG func128 ntmps128 ?_
  refine jr O (aP (bT O (dY O func131 (rC _ hb O) ?_)))
  rintro _ _ ⟨rfl, rfl⟩
  refine iJ (qF (gq (bT O (dJ O (bD 5 eP O aj O (fZ aK O hb O (fC O (dH results128 O ?_))))))))
  exact ⟨O, O⟩
theorem Ko (H : V w0 w (iZ p L pt mk • F)) : gJ prog 126 #[.pointer (some ⟨p, 0, none⟩)] w fun v w' => V w0 w' (kW 21 .i32 v L • iZ p L pt mk • F) := by
 obtain ⟨a, c, xs, f, t, h1, h2, h3, h4, h5, h6, h7, hc1, hc2, hl, H1⟩ := H.buf
 have hb := H1.get.2
 refine iG func126 ntmps126 ?_
 refine jr O (aP (bT O (dY O func131 (rC _ hb O) ?_)))
 rintro _ _ ⟨rfl, rfl⟩
 refine iJ (qF (gq (aP ?_)))
 refine zI (n := 21) [0, 1, 2, 3, 4, 5, 6, 7, 8, 9, 10, 11, 12, 13, 14, 15, 16, 17, 18, 19, 20] (fun W => W.heap[p]? = some (.cells (lD (.slice a xs.length c) f t pt mk) 197 (0, 0))) (by kernel_rfl) (by kernel_rfl) O ?_
 have hS0 : (fun W => W.heap[p]? = some (.cells (lD (.slice a xs.length c) f t pt mk) 197 (0, 0))) (w.drew) := hb
 have H3d := H1.drew
 refine jB 0 O hS0 O (kJ 1 O hS0 O (gU 2 O hS0 1 eP O dM O (jT 3 O hS0 (fun W hW => kC ay O hW O) (jB 4 O hS0 O (kJ 5 O hS0 O (gU 6 O hS0 2 eP O aj O (jT 7 O hS0 (fun W hW => kC aK O hW O) (ji 8 O hS0 (fun _ => CP ay bQ O O O (by omega)) ?_))))))))
 refine jB 9 O hS0 O (kJ 10 O hS0 O (gU 11 O hS0 1 eP O dM O (jT 12 O hS0 (fun W hW => kC ay O hW O) (jB 13 O hS0 O (kJ 14 O hS0 O (gU 15 O hS0 3 eP O aj O (jT 16 O hS0 (fun W hW => kC aK O hW O) (ji 17 O hS0 (fun _ => CP ay bQ O O O (by omega)) ?_))))))))
 refine oq 18 O (YT (vs := [wR 1 0 f (.slice a xs.length c), wR 1 t xs.length (.slice a xs.length c)]) H3d iK dM zeroValue22 O O O (by decide) (XI (L8 O) (L8 O))) ?_
 rintro _ w2 ⟨b2, rfl, H2⟩
 have hS2 : (fun W => W.heap[p]? = some (.cells (lD (.slice a xs.length c) f t pt mk) 197 (0, 0))) w2 := H2.swap.get.2
 refine YS hS2 ?_
 refine oq 19 O (yN O func172 (L6 (l1 := xs.take f) (l2 := xs.drop t) H2 (fun W HW => fB.upto HW.rot.aS (by omega)) (fun W HW => fB.from HW.rot.aS (by omega)) (by simp; omega))) ?_
 rintro u w3 H3
 have hS3 : (fun W => W.heap[p]? = some (.cells (lD (.slice a xs.length c) f t pt mk) 197 (0, 0))) w3 := H3.rot.get.2
 refine YS hS3 ?_
 refine ji 20 O hS3 (fun _ => dN O) (qU (aX (lS (dH results126 O ?_))))
 rw [← h3] at H3
 exact (V.FY h1 h2 h3 h4 h5 h6 h7 H3.swap.right.d3).swap
theorem Mc {v : Value} {l : List Int} (H : V w0 w F) (hr : jq w0 F .i32 v l) (hl : l.length ≤ 1024) : gJ prog 151 #[v] w fun v' w' => ∃ p, v' = .tuple #[.pointer (some ⟨p, 0, none⟩), .int .i64 0] ∧ V w0 w' (iZ p l l.length (-1) • F) := by
 obtain ⟨a, c, rfl, _, _, _⟩ := (hr w H).open
 refine iG func151 ntmps151 ?_
 refine iH (fV O (wu O (bT O (aV (nI ay O) (aV (iV O O) (iJ (wcB O (fun h1 => ?_))))))))
 (try simp only [Z] at h1)
 refine gq (bT O (dY O func71 (pO H hr (by omega)) ?_))
 rintro u w1 H1
 obtain ⟨au, cu, hu, _⟩ := (H1.aS).form
 subst hu
 refine bP O (aV (nI ay O) (aV (pI (pl := #[(0, 1), (1, 1), (2, 1), (3, 1), (4, 1), (5, 1)]) (lD (.slice au l.length cu) 0 0 l.length (-1)) eP zeroValue197 (fun w => by kernel_rfl) O (by kernel_rfl)) (jv (QA H1 O) ?_)))
 rintro _ w2 ⟨b2, rfl, H2⟩
 refine wu O ?_
 have HB : V w0 w2 (dL b2 (.cells (lD (.slice au l.length cu) 0 0 l.length (-1)) 197 (0, 0)) • kW 21 .i32 (.slice au l.length cu) l • F) := H2
 refine aC (jG O O (bP O (aV (nI ay O) (bP O (aV (nI ay O) (dJ O (bD 2 eP O aj O (aH (Am HB aj O O O (by rw [FX]; decide)) ?_))))))))
 rintro _ w3 HB1
 rw [J8] at HB1
 refine dJ O (bD 3 eP O aj O (aH (Am HB1 aj O O O (by rw [FX]; decide)) ?_))
 rintro _ w4 HB2
 rw [O4] at HB2
 refine qR O (fV O (fC O (LC results151 O O ?_)))
 exact ⟨_, O, V.FY (f := l.length) (t := l.length) (Nat.le_refl _) (Nat.le_refl _) (by simp) hl (by omega) (by omega) (by omega) HB2⟩
end
def acV (L : List Int) (i r : Nat) : List Int := QB (QB (List.replicate (L.length + r + 16) 0) 0 (L.take i)) (i + r + 16) (L.drop i)
section
variable {w0 w : World} {F : HP} {p : Nat} {L : List Int} {pt mk : Int}
theorem CX (H : V w0 w (iZ p L pt mk • F)) : gJ prog 131 #[.pointer (some ⟨p, 0, none⟩)] w fun v w' => v = .bool false ∧ w = w' := by
  obtain ⟨a, c, xs, f, t, h1, h2, h3, h4, h5, h6, h7, hc1, hc2, hl, H1⟩ := H.buf
  exact rC _ H1.get.2 rfl
def ZJ (pt i j n : Int) : Int := if j < pt then pt + (n - (j - i)) else if i ≤ pt then i + n else pt
def ZK (mk i j n : Int) : Int := if j < mk then mk + (n - (j - i)) else if i < mk then i else mk
def acO (at_ : Int) (d i : Value) : Array Value := #[.int .i64 at_, d, i]
variable {v : Value} {l : List Int} {i j : Int}
end
end Go.Proofs.YtpdeedplgmbopaaGreatDoor
end
section
namespace Go.Proofs.YtpdeedplgmbopaaGreatDoor
open Go.RowKit
section
variable {w0 w : World} {F : HP} {p : Nat} {L : List Int} {pt mk : Int} {v : Value} {l : List Int} {i j : Int}
end
end Go.Proofs.YtpdeedplgmbopaaGreatDoor
end
section
namespace Go.Proofs.YtpdeedplgmbopaaGreatDoor
open Go.RowKit
open _root_.Go.Proofs.Tryz
def mvP (n : Nat) (pt x : Int) : Int := if 0 ≤ x ∧ x ≤ n then x else pt
def mvE (n : Nat) (x : Int) : Int := if 0 ≤ x ∧ x ≤ n then 0 else 70
def rW (v : Value) (pt mk : Int) : Array Value := #[v, .int .i64 pt, .int .i64 mk]
theorem Si {v : Value} {pt mk : Int} (h : v.oneCell' = true) : ∀ u ∈ (rW v pt mk).toList, u.oneCell' = true := by
  intro u hu
  simp [rW] at hu
  rcases hu with rfl | rfl | rfl
  · exact h
  · rfl
  · rfl
section
variable {w0 w : World} {F : HP} {p : Nat} {L : List Int} {pt mk x : Int} {v : Value} {l : List Int}
theorem Kq (H : V w0 w (iZ p L pt mk • F)) : gJ prog 82 #[.pointer (some ⟨p, 0, none⟩), .int .i64 x] w fun v w' => v = .int .i64 (mvE L.length x) ∧ V w0 w' (iZ p L (mvP L.length pt x) mk • F) := by
 refine nT func82 ntmps82 ?_
 refine jr O (aP (aY (bT O (dY O func131 (CX H) ?_))))
 rintro _ _ ⟨rfl, rfl⟩
 refine gI O (bI O (fun h1 => ?_) (fun h1 => ?_))
 ·(try simp only [Z] at h1)
  exfalso; first | contradiction | omega
 ·(try simp only [Z] at h1)
  refine bT O (aV (gY O O) (jF O (fun h2 => ?_) (fun h2 => ?_)))
  ·(try simp only [Z] at h2)
   refine bJ (bJ (bJ (bJ (jE O O (gI O (Il (jL O (aT (aF (dH results82 O ?_))))))))))
   exact ⟨by rw [mvE, if_neg (by omega)], by rw [mvP, if_neg (by omega)]; exact H⟩
  ·(try simp only [Z] at h2)
   refine bC (bP O (bC (bP O (bC (dY O func132 (L9 H) ?_)))))
   rintro _ w2 ⟨rfl, hD⟩
   have HL := H.YL hD
   refine bC (aV (iV O O) (iL O O (gI O (bI O (fun h3 => ?_) (fun h3 => ?_)))))
   ·(try simp only [Z] at h3)
    refine jL O (aT (aF (dH results82 O ?_)))
    exact ⟨by rw [mvE, if_neg (by omega)], by rw [mvP, if_neg (by omega)]; exact HL⟩
   ·(try simp only [Z] at h3)
    refine bZ (aJ (aX (aP ?_)))
    obtain ⟨a, c, xs, f, t, h11, h12, h13, h14, h15, h16, h17, hc1, hc2, hl, HB⟩ := HL.buf
    refine aC (jG O O (dJ O (bD 4 eP O aj O (aH (Am HB aj O O O (by rw [FX]; decide)) ?_))))
    rintro _ w3 H3
    rw [Iu] at H3
    refine iJ (jL O (dH results82 O ?_))
    exact ⟨by rw [mvE, if_pos (by omega)], by rw [mvP, if_pos (by omega)]; exact V.FY h11 h12 h13 h14 h15 (by omega) h17 H3⟩
theorem CY (H : V w0 w (iZ p L pt mk • F)) : gJ prog 79 #[.pointer (some ⟨p, 0, none⟩)] w fun v' w' => ∃ u, v' = .agg (rW u pt mk) ∧ V w0 w' (kW 21 .i32 u L • iZ p L pt mk • F) := by
 refine iG func79 ntmps79 ?_
 refine iH (jv (Fg H zeroValue46) ?_)
 rintro _ w1 ⟨b1, rfl, H1⟩
 refine qR O (dY O func126 (Ko H1.swap) ?_)
 rintro u w2 H2
 obtain ⟨au, cu, hu, _⟩ := (H2.aS).form
 subst hu
 refine bP O (dY O func127 (Iw H2.swap) ?_)
 rintro _ _ ⟨rfl, rfl⟩
 refine bP O (dY O func128 (J9 H2.swap) ?_)
 rintro _ _ ⟨rfl, rfl⟩
 refine aV (pI (pl := #[(0, 1), (1, 1), (2, 1)]) (rW (.slice au L.length cu) pt mk) jk zeroValue46 (fun w => by kernel_rfl) O (by kernel_rfl)) (aH (xH (cs := rW (.slice au L.length cu) pt mk) H2.rot sizeOf46 O O O O (Si O)) ?_)
 rintro _ w5 H5
 refine YU ?_
 refine XA (.inl O) results79 O jk O (by rw [Uw]; rfl) H5.get.2 ?_
 exact ⟨_, O, H5.right⟩
end
end Go.Proofs.YtpdeedplgmbopaaGreatDoor
end
section
namespace Go.Proofs.YtpdeedplgmbopaaGreatDoor
open Go.RowKit
def Ux (g : Int → Bool) (l : List Int) (at_ : Nat) : Nat := at_ + ((l.drop at_).takeWhile g).length
def Uy (g : Int → Bool) (l : List Int) (at_ : Nat) : Nat := at_ - ((l.take at_).reverse.takeWhile g).length
def CZ (n : Nat) (x : Int) : Nat := (min (max x 0) n).toNat
section
variable {w0 w : World} {F G : HP} {v fv : Value} {l : List Int} {g : Int → Bool}
def abm (l : List Int) (x : Int) : Nat := Ux dO l (Ux (fun r => !dO r) l (CZ l.length x))
def ZL (l : List Int) (x : Int) : Nat := Uy dO l (Uy (fun r => !dO r) l (CZ l.length x))
def QG (r : Int) : Bool := decide (zM r ≠ 0) || jX r
def aen (l : List Int) (x : Int) : Nat := if CZ l.length x < l.length then Ux (fun r => !QG r) l (CZ l.length x + 1) else l.length
def aeo (l : List Int) (x : Int) : Nat := Uy (fun r => !QG r) l (CZ l.length x) - 1
end
section
variable {w0 w : World} {F : HP} {p : Nat} {L : List Int} {pt mk : Int} {v : Value} {l : List Int}
end

section
variable {w0 w : World} {F : HP} {p : Nat} {L : List Int} {pt mk a : Int} {d i : Value} {dl il : List Int}
end
end Go.Proofs.YtpdeedplgmbopaaGreatDoor
end
section
namespace Go.Proofs.YtpdeedplgmbopaaGreatDoor
open Go.RowKit
open _root_.Go.Proofs.Tryz
def EC (L : List Int) (i j : Int) (l : List Int) : Int := if i < 0 ∨ L.length < i ∨ j < i ∨ L.length < j then 70 else if 1024 < L.length - (j - i) + l.length then 3 else 0
def YV (L : List Int) (i j : Int) (l : List Int) : List Int := if EC L i j l = 0 then L.take i.toNat ++ l ++ L.drop j.toNat else L
def YW (L : List Int) (pt i j : Int) (l : List Int) : Int := if EC L i j l = 0 then ZJ pt i j l.length else pt
def YX (L : List Int) (mk i j : Int) (l : List Int) : Int := if EC L i j l = 0 then ZK mk i j l.length else mk
def abn (L : List Int) (i j : Int) (l : List Int) : Int := if EC L i j l = 0 then i else 0
def abo (L : List Int) (i j : Int) (l : List Int) : List Int := if EC L i j l = 0 then (L.drop i.toNat).take (j - i).toNat else []
def abp (L : List Int) (i j : Int) (l : List Int) : List Int := if EC L i j l = 0 then l else []
section
variable {w0 w : World} {F : HP} {p : Nat} {L : List Int} {pt mk : Int} {v d s : Value} {l dl il : List Int} {i j a x : Int}
def smE (L : List Int) (x : Int) : Int := if x < -1 ∨ L.length < x then 70 else 0
def smM (L : List Int) (mk x : Int) : Int := if x < -1 ∨ L.length < x then mk else x
def swE (mk : Int) : Int := if mk < 0 then 6 else 0
def swP (pt mk : Int) : Int := if mk < 0 then pt else mk
def swM (pt mk : Int) : Int := if mk < 0 then mk else pt
theorem Iy (H : V w0 w (iZ p L pt mk • F)) : gJ prog 129 #[.pointer (some ⟨p, 0, none⟩)] w fun v' w' => ∃ q, v' = .pointer (some ⟨q, 0, none⟩) ∧ V w0 w' (iZ q L pt mk • iZ p L pt mk • F) := by
 refine iG func129 ntmps129 ?_
 refine jr O (aP (bT O (dY O func131 (CX H) ?_)))
 rintro _ _ ⟨rfl, rfl⟩
 refine iJ (qF (gq (aP ?_)))
 obtain ⟨aeM, aeN, aeO, f_p, t_p, abq, abr, abt, abu, abv, abw, aeP, aeQ, aeR, aep, abx⟩ := (H).buf
 refine aC (nD O O (aV (eY eP O sizeOf197 O O (abx).get.2) (jv (fJ (l := [_, _, _, _, _, _]) abx zeroValue197 O) ?_)))
 rintro _ w3 ⟨b3, rfl, H3⟩
 refine aH (bU 0 (l' := [_, _, _, _, _, _]) (us := [_, _, _, _, _, _]) H3 sizeOf197 O O O (aA (aW (by first | rfl | exact Rd.one ((H3.f3).aS)) (aA (aA (aA (aA bF)))))) O O) ?_
 rintro _ w4 H4
 refine qR O (dJ O (bD 1 eP O dM O (fZ ay O (H4.f2).get.2 O (dY O func71 (pO H4 (fun W HW => (HW.f3).aS) (by omega)) ?_))))
 rintro u5 w5 H5
 refine bD 1 eP O dM O (aH (fA 1 (l' := [_, _, _, _, _, _]) H5.f2 dM O O (by first | rfl | exact Rd.one ((H5).aS)) O O) ?_)
 rintro _ w6 H6
 refine iJ (jL O (dH results129 O ?_))
 exact ⟨_, O, (V.FY abq abr abt abu abv abw (by omega) (V.FY abq abr abt abu abv abw (by omega) H6.f4.f4.f4.f4).f2.f3.f2).f2⟩
def aby (L : List Int) (a : Int) (dl : List Int) : Bool := decide ((dl.length : Int) ≤ L.length - a) && ((L.drop a.toNat).take dl.length == dl)
def ZM (L : List Int) (a : Int) (dl il : List Int) : Int := if a < 0 ∨ L.length < a then 70 else if aby L a dl then EC L a (a + dl.length) il else 71
def acW (L : List Int) (a : Int) (dl il : List Int) : List Int := if ZM L a dl il = 0 then YV L a (a + dl.length) il else L
def acX (L : List Int) (pt a : Int) (dl il : List Int) : Int := if ZM L a dl il = 0 then YW L pt a (a + dl.length) il else pt
def acY (L : List Int) (mk a : Int) (dl il : List Int) : Int := if ZM L a dl il = 0 then YX L mk a (a + dl.length) il else mk
end
def iC (s : List Value) (h n p : Nat) : Array Value := (Value.bool true :: (s ++ [.int .i64 h, .int .i64 n, .int .i64 p])).toArray
section
variable {s : List Value} {h n p : Nat}
theorem DX (hs : s.length = 60) : (iC s h n p).size = 64 := by simp [iC, hs]
theorem Kr : (iC s h n p)[0]? = some (.bool true) := by simp [iC]
theorem Sj (hs : s.length = 60) {i : Nat} (hi : i < 60) : (iC s h n p)[1 + i]? = some (s.getD i undef) := by
  simp [iC, Nat.add_comm 1 i, List.getElem?_append_left (show i < s.length by omega), List.getD_eq_getElem?_getD, show i < s.length by omega]
theorem Sl (hs : s.length = 60) : (iC s h n p)[61]? = some (.int .i64 h) := by simp [iC, hs]
theorem rX (hs : s.length = 60) : (iC s h n p)[62]? = some (.int .i64 n) := by simp [iC, hs]
theorem FZ (hs : s.length = 60) : (iC s h n p)[63]? = some (.int .i64 p) := by simp [iC, hs]
theorem F5 (hs : s.length = 60) (x : Nat) : (iC s h n p).setIfInBounds 63 (.int .i64 x) = iC s h n x := by
  apply Array.ext'; simp [iC, List.set_append, hs]
end
def abz (I : Hp) (s : List Value) (h : Nat) (E : List (List Int)) : Prop := ∀ i, i < E.length → CU I .i32 (s.getD ((h + i) % 60) undef) (E.getD i [])
def yP (s : List Value) (h : Nat) (E : List (List Int)) : HP := know (fun I => abz I s h E) fun _ _ hl hk i hi => (hk i hi).mono hl
def iD (p : Nat) (E : List (List Int)) (place : Nat) : HP := rQ fun (x : List Value × Nat) =>
  fact (x.1.length = 60 ∧ x.2 < 60 ∧ E.length ≤ 60 ∧ (place < E.length ∨ place = 0) ∧ (∀ e ∈ E, e.length ≤ 1024) ∧ ∀ v ∈ x.1, v.oneCell' = true) • dL p (.cells (iC x.1 x.2 E.length place) 207 (0, 0)) • yP x.1 x.2 E
section
variable {w0 w : World} {F : HP} {p place : Nat} {E : List (List Int)}
theorem V.ring (H : V w0 w (iD p E place • F)) : ∃ s h, s.length = 60 ∧ h < 60 ∧ E.length ≤ 60 ∧ (place < E.length ∨ place = 0) ∧ (∀ e ∈ E, e.length ≤ 1024) ∧ (∀ v ∈ s, v.oneCell' = true) ∧ V w0 w (dL p (.cells (iC s h E.length place) 207 (0, 0)) • yP s h E • F) := by
  obtain ⟨⟨s, h⟩, H⟩ := H.lQ
  obtain ⟨⟨h1, h2, h3, h4, h5, h6⟩, H⟩ := H.flat.fact
  exact ⟨s, h, h1, h2, h3, h4, h5, h6, H.flat⟩
theorem V.Fh {s : List Value} {h : Nat} (h1 : s.length = 60) (h2 : h < 60) (h3 : E.length ≤ 60) (h4 : place < E.length ∨ place = 0) (h5 : ∀ e ∈ E, e.length ≤ 1024) (h6 : ∀ v ∈ s, v.oneCell' = true) (H : V w0 w (dL p (.cells (iC s h E.length place) 207 (0, 0)) • yP s h E • F)) : V w0 w (iD p E place • F) :=
  V.iy (s, h) (V.deep (V.kD ⟨h1, h2, h3, h4, h5, h6⟩ H.deep))
theorem Kt (H : V w0 w F) : gJ prog 110 #[] w fun v w' => ∃ p, v = .pointer (some ⟨p, 0, none⟩) ∧ V w0 w' (iD p [] 0 • F) := by
  refine RS func110 ntmps110 ?_
  refine jr O (iH (aV (pI (pl := #[(0, 1), (1, 60), (61, 1), (62, 1), (63, 1)]) (iC (List.replicate 60 (.slice none 0 0)) 0 0 0) fK zeroValue207 (fun w => by kernel_rfl) O (by kernel_rfl)) (jv (QA H O) ?_)))
  rintro _ w1 ⟨b1, rfl, H1⟩
  refine fC O (dH results110 O ?_)
  refine ⟨b1, O, V.Fh (s := List.replicate 60 (.slice none 0 0)) (h := 0) (by simp) (by omega) (by simp) (.inr O) (by simp) (by intro v hv; rw [List.eq_of_mem_replicate hv]; rfl) ?_⟩
  exact V.swap (V.uY (fun I i hi => by simp at hi) H1)
theorem sZ (t : TypeId) {cs : Array Value} {fr : Nat × Nat} {m : Bool} (hb : w.heap[p]? = some (.cells cs t fr)) (h0 : cs[0]? = some (.bool m)) :
    gJ prog 140 #[.pointer (some ⟨p, 0, none⟩)] w fun v w' => v = .bool (!m) ∧ w = w' := by
  refine iG func140 ntmps140 ?_
  refine jr O (bT O (aV (iR tq O O) (XB O (fun h1 => ?_))))
  (try simp only [Z] at h1)
  refine bC (bP O (bC (dJ O (bC (bD 0 fK O aO O (bC (fZ bK O hb h0 (bC (aV (kT O) (iL O O (fC O (dH results140 O ?_))))))))))))
  exact ⟨O, O⟩
theorem V.Uz {s : List Value} {h i : Nat} (H : V w0 w (yP s h E • F)) (hi : i < E.length) : fB w .i32 (s.getD ((h + i) % 60) undef) (E.getD i []) := let ⟨I, k, hI⟩ := H.qC; (k i hi).rd hI
theorem Md {s : List Value} {h n m : Nat} {t : TypeId} {fr : Nat × Nat} {k : Nat} (hs : s.length = 60) (hh : h < 60) (hk : k < 60) (hb : w.heap[p]? = some (.cells (iC s h n m) t fr)) :
  gJ prog 141 #[.pointer (some ⟨p, 0, none⟩), .int .i64 k] w fun v w' => v = s.getD ((h + k) % 60) undef ∧ zB w w' := by
 refine nT func141 ntmps141 ?_
 refine jr O (aP ?_)
 refine zI (n := 13) [0, 1, 2, 3, 4, 5, 6, 7, 8, 9, 10, 11, 12] (fun W => W.heap = w.heap) (by kernel_rfl) (by kernel_rfl) O ?_
 have hS0 : (fun W => W.heap = w.heap) (w.drew) := rfl
 refine jB 0 O hS0 O (jB 1 O hS0 O (kJ 2 O hS0 O (gU 3 O hS0 61 fK O aj O ?_)))
 refine jT 4 O hS0 (fun W hW => kC aK O (by rw [hW]; exact hb) (Sl hs)) ?_
 refine jB 5 O hS0 O (ji 6 O hS0 (fun _ => fQ O O (by omega)) ?_)
 refine ji 7 O hS0 (fun _ => YP O O (by omega) (by  omega)) ?_
 refine kJ 8 O hS0 O (gU 9 O hS0 1 fK O sizeOf205 O (ji 10 O hS0 (fun _ => LM underlying205 dM O O (by omega)) ?_))
 refine jT 11 O hS0 (fun W hW => kC ay O (by rw [hW]; exact hb) (by rw [show (1 + (((h : Int) + (k : Int)) % 60).toNat * 1) = 1 + (h + k) % 60 from by omega]; exact Sj hs (by omega))) ?_
 refine ji 12 O hS0 (fun _ => dN O) (qU (aX (lS (dH results141 O ?_))))
 exact ⟨O, ⟨1, O⟩⟩
theorem Ku (H : V w0 w (iD p E place • F)) : gJ prog 86 #[.pointer (some ⟨p, 0, none⟩)] w fun v w' => v = .int .i64 E.length ∧ w = w' := by
  obtain ⟨s, h, hs, hh, hE, hp, hm, ho, H1⟩ := H.ring
  have hb := H1.get.2
  refine iG func86 ntmps86 ?_
  refine jr O (aP (bT O (dY O func140 (sZ _ hb Kr) ?_)))
  rintro _ _ ⟨rfl, rfl⟩
  refine iJ (qF (gq (bT O (dJ O (bD 62 fK O aj O (fZ aK O hb (rX hs) (fC O (dH results86 O ?_))))))))
  exact ⟨O, O⟩
end
end Go.Proofs.YtpdeedplgmbopaaGreatDoor
end
section
namespace Go.Proofs.YtpdeedplgmbopaaGreatDoor
open Go.RowKit
def abA (E : List (List Int)) (place : Nat) (way : Int) (l : List Int) : Int × List (List Int) × Nat :=
  if way < 0 ∨ 2 < way then (1, E, place)
  else if 1024 < l.length then (3, E, place)
  else if way ≠ 0 ∧ 0 < E.length then
    if 1024 < l.length + (E.getD 0 []).length then (3, E, place)
    else (0, (if way = 1 then E.getD 0 [] ++ l else l ++ E.getD 0 []) :: E.tail, 0)
  else if way = 0 ∧ l.length = 0 then (0, E, place)
  else (0, (l :: E).take 60, 0)
section
variable {w0 w : World} {F : HP} {p place : Nat} {E : List (List Int)} {v : Value} {l : List Int} {way : Int}
end
end Go.Proofs.YtpdeedplgmbopaaGreatDoor
end
section
namespace Go.Proofs.YtpdeedplgmbopaaGreatDoor
open Go.RowKit
open _root_.Go.Proofs.Tryz
def DY (m place : Nat) (n : Int) : Nat := (((place : Int) + n) % (m : Int)).toNat
theorem XJ {m place : Nat} {n : Int} (h : 0 < m) : DY m place n < m := by
  unfold DY
  have h1 := Int.emod_nonneg ((place : Int) + n) (show (m : Int) ≠ 0 by omega)
  have h2 := Int.emod_lt_of_pos ((place : Int) + n) (show (0 : Int) < m by omega)
  omega
theorem Kv (a : Int) {m : Int} (h : 0 < m) : -m < a.tmod m ∧ a.tmod m < m := by
  have h2 := Int.tmod_lt_of_pos a h
  have h3 := Int.tmod_lt_of_pos (-a) h
  rw [Int.neg_tmod] at h3
  omega
theorem Jq (a m : Int) : a.tmod m % m = a % m := by
  rw [Int.tmod_def]
  exact Int.sub_mul_emod_self_left a m (a.tdiv m)
theorem ZN (m place : Nat) (n : Int) (h : 0 < m) : (((place : Int) + n.tmod m).tmod m + m).tmod m = (DY m place n : Int) := by
  have h1 := Kv ((place : Int) + n.tmod m) (show (0 : Int) < m by omega)
  have h2 := Int.emod_nonneg ((place : Int) + n) (show (m : Int) ≠ 0 by omega)
  unfold DY
  rw [Int.toNat_of_nonneg h2, Int.tmod_eq_emod_of_nonneg (by omega), Int.add_emod_right, Jq, Int.add_emod, Jq, ← Int.add_emod]
section
variable {w0 w : World} {F : HP} {p place : Nat} {E : List (List Int)} {v : Value} {l : List Int} {way : Int}
theorem DZ {n : Int} (H : V w0 w (iD p [] place • F)) :
    gJ prog 87 #[.pointer (some ⟨p, 0, none⟩), .int .i64 n] w fun v' w' => v' = .tuple #[.slice none 0 0, .int .i64 6] ∧ V w0 w' (iD p [] place • F) := by
  obtain ⟨s, h, hs, hh, hE, hp, hm, ho, H1⟩ := H.ring
  have hb := H1.get.2
  refine nT func87 ntmps87 ?_
  refine iH (fV O (wu O (aY (bT O (dY O func140 (sZ _ hb Kr) ?_)))))
  rintro _ _ ⟨rfl, rfl⟩
  refine gI O (qF (bT O (dJ O (bD 62 fK O aj O (fZ aK O hb (rX hs) (aV (dR O O) (gI O (wcA O (fun h1 => ?_)))))))))
  (try simp only [Z] at h1)
  refine iH (fV O (fC O (aT (aF (LC results87 O O ?_)))))
  exact ⟨O, H⟩
theorem EU {n : Int} (H : V w0 w (iD p E place • F)) (h0 : 0 < E.length) :
  gJ prog 87 #[.pointer (some ⟨p, 0, none⟩), .int .i64 n] w fun v' w' => ∃ u, v' = .tuple #[u, .int .i64 0] ∧
   V w0 w' (kW 21 .i32 u (E.getD (DY E.length place n) []) • iD p E (DY E.length place n) • F) := by
 obtain ⟨s, h, hs, hh, hE, hp, hm, ho, H⟩ := H.ring
 have hb := H.get.2
 have hlt := XJ (place := place) (n := n) h0
 have acZ := ZN E.length place n h0
 have hb1 := Kv n (show (0 : Int) < E.length by omega)
 have hb2 := Kv ((place : Int) + n.tmod E.length) (show (0 : Int) < E.length by omega)
 refine nT func87 ntmps87 ?_
 refine iH (fV O (wu O (aY (bT O (dY O func140 (sZ _ hb Kr) ?_)))))
 rintro _ _ ⟨rfl, rfl⟩
 refine gI O (qF (bT O (dJ O (bD 62 fK O aj O (fZ aK O hb (rX hs) (aV (dR O O) (gI O (wcB O (fun h1 => ?_)))))))))
 (try simp only [Z] at h1)
 refine bZ (aJ (aX (aP ?_)))
 refine zI (n := 30) [0, 1, 2, 3, 4, 5, 6, 7, 8, 9, 10, 11, 12, 13, 14, 15, 16, 17, 18, 19, 20, 21, 22, 23, 24, 25, 26, 27, 28, 29] (fun W => W.heap = w.heap) (by kernel_rfl) (by kernel_rfl) O ?_
 have hS0 : (fun W => W.heap = w.heap) (w.drew) := rfl
 have H5d := H.drew
 refine jB 0 O hS0 O (jB 1 O hS0 O (kJ 2 O hS0 O (gU 3 O hS0 63 fK O aj O ?_)))
 refine jT 4 O hS0 (fun W hW => kC aK O (by rw [hW]; exact hb) (FZ hs)) ?_
 refine jB 5 O hS0 O (jB 6 O hS0 O (kJ 7 O hS0 O (gU 8 O hS0 62 fK O aj O ?_)))
 refine jT 9 O hS0 (fun W hW => kC aK O (by rw [hW]; exact hb) (rX hs)) ?_
 refine ji 10 O hS0 (fun _ => OH O O (by omega)) (ji 11 O hS0 (fun _ => fQ O O (by omega)) (jB 12 O hS0 O (kJ 13 O hS0 O (gU 14 O hS0 62 fK O aj O ?_))))
 refine jT 15 O hS0 (fun W hW => kC aK O (by rw [hW]; exact hb) (rX hs)) ?_
 refine ji 16 O hS0 (fun _ => OH O O (by omega)) (jB 17 O hS0 O (kJ 18 O hS0 O (gU 19 O hS0 62 fK O aj O ?_)))
 refine jT 20 O hS0 (fun W hW => kC aK O (by rw [hW]; exact hb) (rX hs)) ?_
 refine ji 21 O hS0 (fun _ => fQ O O (by omega)) (jB 22 O hS0 O (kJ 23 O hS0 O (gU 24 O hS0 62 fK O aj O ?_)))
 refine jT 25 O hS0 (fun W hW => kC aK O (by rw [hW]; exact hb) (rX hs)) ?_
 refine ji 26 O hS0 (fun _ => OH O O (by omega)) (kJ 27 O hS0 O (gU 28 O hS0 63 fK O aj O ?_))
 refine fO 29 O (by kernel_rfl) (Am H5d aj O O O (by rw [DX hs]; decide)) ?_
 rintro _ w2 H2
 rw [acZ, F5 hs] at H2
 refine abb (by kernel_rfl) ?_
 refine qU (aX (bT O (nD O O (bD 63 fK O aj O (fZ aK O H2.get.2 (FZ hs) (dY O func141 (Md hs hh (by omega) H2.get.2) ?_))))))
 rintro _ w3 ⟨rfl, hD2⟩
 have H3 := H2.YL hD2
 refine OG (uF (vW O func71 O O) (pO H3 (fun W HW => HW.right.Uz (i := DY E.length place n) hlt) (by have := hm (E.getD (DY E.length place n) []) (by rw [List.getD_eq_getElem?_getD, List.getElem?_eq_getElem hlt]; simp); omega))) (jW O) ?_
 rintro u w4 H4
 refine fV O (fC O (LC results87 O O ?_))
 exact ⟨u, O, (V.Fh hs hh hE (.inl hlt) hm ho H4.d3).swap⟩
theorem V.Sm {s : List Value} {h : Nat} (H : V w0 w (yP s h E • F)) : V w0 w (yP s h E • yP s h E • F) := H.qW
theorem Sr {s : List Value} {h n p : Nat} (ho : ∀ v ∈ s, v.oneCell' = true) : ∀ v ∈ (iC s h n p).toList, v.oneCell' = true := by
  intro v hv
  simp [iC] at hv
  rcases hv with rfl | hv | rfl | rfl | rfl <;> first | rfl | exact ho v hv
theorem zN (H : V w0 w (iD p E place • F)) :
    gJ prog 85 #[.pointer (some ⟨p, 0, none⟩)] w fun v' w' => ∃ q, v' = .pointer (some ⟨q, 0, none⟩) ∧ V w0 w' (iD q E place • iD p E place • F) := by
  obtain ⟨s, h, hs, hh, hE, hp, hm, ho, H⟩ := H.ring
  have hb := H.get.2
  refine iG func85 ntmps85 ?_
  refine jr O (aP (bT O (dY O func140 (sZ _ hb Kr) ?_)))
  rintro _ _ ⟨rfl, rfl⟩
  refine iJ (qF (gq (bT O (dJ O (aV (eY fK O sizeOf207 (DX hs) O hb) (jv (Fg H zeroValue207) ?_))))))
  rintro _ w2 ⟨b2, rfl, H2⟩
  refine aH (xH H2 sizeOf207 (DX hs) O O O (Sr ho)) ?_
  rintro _ w3 H3
  refine iJ (jL O (dH results85 O ?_))
  exact ⟨_, O, V.Fh hs hh hE hp hm ho (V.Fh hs hh hE hp hm ho (H3.rot.Sm.r4)).swap.rot⟩
end
section
variable {w0 w : World} {F : HP} {p place : Nat} {E : List (List Int)}
theorem O5 (H : V w0 w (iD p E place • F)) : E.length ≤ 60 ∧ (place < E.length ∨ place = 0) ∧ ∀ e ∈ E, e.length ≤ 1024 := by
  obtain ⟨s, h, hs, hh, hE, hpl, hE2, hs1, H1⟩ := H.ring
  exact ⟨hE, hpl, hE2⟩
theorem EW {n : Int} (H : V w0 w (iD p E place • F)) : gJ prog 87 #[.pointer (some ⟨p, 0, none⟩), .int .i64 n] w fun v w' => ∃ u, v = .tuple #[u, .int .i64 (if E.length = 0 then 6 else 0)] ∧
    V w0 w' (kW 21 .i32 u (if E.length = 0 then [] else E.getD (DY E.length place n) []) • iD p E (if E.length = 0 then place else DY E.length place n) • F) := by
  by_cases h0 : E.length = 0
  · obtain rfl := List.eq_nil_of_length_eq_zero h0
    simp only [List.length_nil, if_true]
    exact (DZ H).mono fun v w' h => ⟨_, h.1, h.2.iO none⟩
  · simp only [if_neg h0]
    exact (EU H (by omega)).mono fun v w' h => h
end
end Go.Proofs.YtpdeedplgmbopaaGreatDoor
end
section
namespace Go.Proofs.YtpdeedplgmbopaaGreatDoor
open Go.RowKit
def zn (I : Hp) (k : IntKind) (vs : List Value) (ls : List (List Int)) : Prop := vs.length = ls.length ∧ ∀ j, j < ls.length → CU I k (vs.getD j undef) (ls.getD j [])
def zO (k : IntKind) (vs : List Value) (ls : List (List Int)) : HP := know (fun I => zn I k vs ls) fun _ _ hl h => ⟨h.1, fun j hj => (h.2 j hj).mono hl⟩
def LL (e : TypeId) (k : IntKind) (v : Value) (ls : List (List Int)) : HP := rQ fun vs => Row e 1 v ls.length vs • zO k vs ls
theorem tu {α : Type _} {l m : List α} {j : Nat} {d : α} (h : j < l.length) : (l ++ m).getD j d = l.getD j d := by simp [List.getD_eq_getElem?_getD, List.getElem?_append_left h]
theorem rD {α : Type _} {l m : List α} {j : Nat} {d : α} (h : l.length ≤ j) : (l ++ m).getD j d = m.getD (j - l.length) d := by simp [List.getD_eq_getElem?_getD, List.getElem?_append_right h]
theorem Jr {α : Type _} {l : List α} {i j : Nat} {d : α} : (l.drop i).getD j d = l.getD (i + j) d := by simp [List.getD_eq_getElem?_getD]
theorem D5 {α : Type _} {l : List α} {i j : Nat} {d : α} (h : j < i) : (l.take i).getD j d = l.getD j d := by simp [List.getD_eq_getElem?_getD, List.getElem?_take, h]
theorem vK {α : Type _} {l : List α} {j : Nat} {d : α} (h : j < l.length) : l.getD j d ∈ l := by rw [List.getD_eq_getElem?_getD, List.getElem?_eq_getElem h]; exact List.getElem_mem h
theorem zn.app {I : Hp} {k : IntKind} {vs us : List Value} {ls ms : List (List Int)} (h : zn I k vs ls) (g : zn I k us ms) : zn I k (vs ++ us) (ls ++ ms) := by
  refine ⟨by simp [h.1, g.1], fun j hj => ?_⟩
  by_cases hl : j < ls.length
  · rw [tu (by rw [h.1]; exact hl), tu hl]; exact h.2 j hl
  · have hj' : j - ls.length < ms.length := by simp at hj; omega
    rw [rD (by rw [h.1]; omega), rD (by omega), h.1]; exact g.2 _ hj'
theorem zn.drop {I : Hp} {k : IntKind} {vs : List Value} {ls : List (List Int)} (h : zn I k vs ls) (i : Nat) : zn I k (vs.drop i) (ls.drop i) := by
  refine ⟨by simp [h.1], fun j hj => ?_⟩
  rw [Jr, Jr]
  exact h.2 _ (by simp at hj; omega)
theorem zn.take {I : Hp} {k : IntKind} {vs : List Value} {ls : List (List Int)} (h : zn I k vs ls) (i : Nat) : zn I k (vs.take i) (ls.take i) := by
  refine ⟨by simp [h.1], fun j hj => ?_⟩
  simp at hj
  rw [D5 (by omega), D5 (by omega)]
  exact h.2 _ (by omega)
theorem CU.one {I : Hp} {k : IntKind} {v : Value} {l : List Int} (h : CU I k v l) : zn I k [v] [l] := ⟨rfl, fun j hj => by
  obtain rfl : j = 0 := by simp at hj; omega
  exact h⟩
theorem CU.UA {I : Hp} {k : IntKind} {v : Value} {l : List Int} (h : CU I k v l) : v.oneCell' = true := by obtain ⟨a, c, rfl, _⟩ := h; rfl
section
variable {w0 w : World} {F : HP} {e : TypeId} {k : IntKind} {v : Value} {vs us : List Value} {ls ms : List (List Int)} {l : List Int}
theorem V.XK (H : V w0 w (zO k vs ls • F)) {j : Nat} (hj : j < ls.length) : fB w k (vs.getD j undef) (ls.getD j []) := let ⟨I, h, hI⟩ := H.qC; (h.2 j hj).rd hI
theorem V.UC (H : V w0 w (zO k vs ls • F)) : vs.length = ls.length := let ⟨I, h, hI⟩ := H.qC; h.1
theorem V.Me (H : V w0 w F) : V w0 w (zO k [] [] • F) := H.uY fun I => ⟨rfl, fun j hj => by simp at hj⟩
theorem V.Sv (H : V w0 w (zO k vs ls • mP k v l • F)) : V w0 w (zO k (vs ++ [v]) (ls ++ [l]) • F) := H.DR (tV (fun I h g => h.app g.one) F)
theorem V.ll (H : V w0 w (LL e k v ls • F)) : ∃ vs, V w0 w (Row e 1 v ls.length vs • zO k vs ls • F) := let ⟨vs, h⟩ := H.lQ; ⟨vs, h.flat⟩
theorem V.YZ (H : V w0 w (Row e 1 v ls.length vs • zO k vs ls • F)) : V w0 w (LL e k v ls • F) := V.iy vs H.deep
theorem V.UD {n : Nat} (H : V w0 w (Row e 1 v n vs • zO k vs ls • F)) : V w0 w (LL e k v ls • F) := by
  have h1 := H.wY
  have h2 := H.swap.UC
  obtain rfl : n = ls.length := by omega
  exact H.YZ
theorem Rd.abB {n : Nat} {xs : List Value} (hr : Rd w 1 v n xs) {i : Nat} (h : i ≤ n) : Rd w 1 (wR 1 0 i v) i (xs.take i) := by
  have h1 := hr.cut (Nat.zero_le i) h
  simpa using h1
end
theorem UE {α : Type _} {enc : α → List Value} {sz : Nat} (he : ∀ a, (enc a).length = sz) (l : List α) : (l.flatMap enc).length = l.length * sz := by
  induction l with
  | nil => simp
  | cons a l ih => simp [he, ih, Nat.add_mul, Nat.add_comm]
theorem rY {α : Type _} {enc : α → List Value} {sz : Nat} (he : ∀ a, (enc a).length = sz) {l : List α} {k : Nat} (hk : k < l.length) (d : α) : ((l.flatMap enc).drop (k * sz)).take sz = enc (l.getD k d) := by
  have h1 : l = l.take k ++ l.getD k d :: l.drop (k + 1) := by
    rw [List.getD_eq_getElem?_getD, List.getElem?_eq_getElem hk]
    simp
  have h2 : ((l.take k).flatMap enc).length = k * sz := by rw [UE he, List.length_take, Nat.min_eq_left (by omega)]
  conv => lhs; rw [h1]
  rw [List.flatMap_append, List.drop_append, h2]
  simp [h2, List.take_append, he]
theorem qL {P : Program} {L : List (Nat × Value)} {w : World} {ty : TypeId} {x : Operand} {t : TypeId} {d : TypeDesc} {b o n c sz n' k : Nat} {xs ys : List Value} (hr : Rd w sz (.slice (some ⟨b, o, none⟩) n c) n' xs) (hk : k < n') (hu : P.underlying t = some d) (hd : J4 d = true) (hs : ∀ w, (sizeOf t).run P w = .ok sz w)
    (hx : ev L x = some (.pointer (some ⟨b, o + (k : Int).toNat * sz, none⟩))) (hy : (xs.drop (k * sz)).take sz = ys) (hl : ys.length = sz) : Val P L (.load t x) ty w (.agg ys.toArray) w :=
  yM (by rw [hu]; rfl) (Jm hu hd) hs hl hx (fun j u hj => by
    have hjl : j < sz := by rw [← hl]; exact (List.getElem?_eq_some_iff.1 hj).1
    rw [hr.atS hk hjl, List.getD_eq_getElem?_getD]
    rw [← hy, List.getElem?_take, if_pos hjl, List.getElem?_drop] at hj
    rw [hj]; rfl)
end Go.Proofs.YtpdeedplgmbopaaGreatDoor
end
section
namespace Go.Proofs.YtpdeedplgmbopaaGreatDoor
open Go.RowKit
open _root_.Go.Proofs.Tryz
section
variable {w0 w : World} {F : HP} {v d s z d2 z2 u1 u2 u3 : Value} {L dl il dl2 il2 l1 l2 l3 : List Int} {a a2 : Int}
def ac0 (L : List Int) (a : Int) (dl : List Int) : Bool := decide (0 ≤ a ∧ a + dl.length ≤ L.length) && ((L.drop a.toNat).take dl.length == dl)
def uE (L : List Int) (a : Int) (dl il : List Int) : Int := if ac0 L a dl then (if 1024 < (L.length : Int) - dl.length + il.length then 3 else 0) else 1
def uL (L : List Int) (a : Int) (dl il : List Int) : List Int := if uE L a dl il = 0 then L.take a.toNat ++ il ++ L.drop (a.toNat + dl.length) else []
abbrev edV (a : Int) (d z : Value) : Value := .agg #[.int .i64 a, d, z]
theorem vk (H : V w0 w F) (hd : jq w0 F .i32 d dl) (hi : jq w0 F .i32 z il) (b2 : dl.length ≤ 35184372087808) (b3 : il.length ≤ 35184372087808) :
  gJ prog 179 #[edV a d z] w fun v' w' => ∃ d' s', v' = edV a d' s' ∧ V w0 w' (kW 21 .i32 d' dl • kW 21 .i32 s' il • F) := by
 refine iG func179 ntmps179 ?_
 refine iH (jv (iM (l := [_, _, _]) H O O) ?_)
 rintro _ w1 ⟨b1, rfl, H1⟩
 refine jv (fJ (l := [_, _, _]) H1 gZ O) ?_
 rintro _ w2 ⟨b2, rfl, H2⟩
 refine pK ?_
 have UF := H2.drew
 have yx := V.kp (UF.f2.f2)
 refine yw [1, 3, 6] yx O (gU 0 O yx 0 dA O aj O (jT 1 O yx (fun W hW => kC aK O ((Kp.h hW).f2).get.2 O) (gU 2 O yx 1 dA O dM O (jT 3 O yx (fun W hW => kC ay O ((Kp.h hW).f2).get.2 O) (gU 5 O yx 2 dA O dM O (jT 6 O yx (fun W hW => kC ay O ((Kp.h hW).f2).get.2 O) (oq 4 O (yN O func71 (pO UF (fun W HW => hd _ (HW.right.right)) (by omega))) ?_)))))))
 rintro u3 w3 H3
 have yQ := V.kp (H3.f3.f3.f3)
 refine dV yQ (fun W hW => (Kp.h hW).right.f2.f2) ?_
 refine oq 7 O (yN O func71 (pO H3 (fun W HW => hi _ (HW.right.right.right)) (by omega))) ?_
 rintro u4 w4 H4
 have xI := V.kp (H4.f4.f4.f4.f4)
 refine dV xI (fun W hW => (Kp.h hW).right.f3.f3.f3) ?_
 obtain ⟨au3, cu3, eu3, -⟩ := fB.open ((H4.f2).aS)
 subst eu3
 obtain ⟨au4, cu4, eu4, -⟩ := fB.open ((H4).aS)
 subst eu4
 refine ji 8 O xI (fun _ => pI (pl := #[(0, 1), (1, 1), (2, 1)]) (#[_, _, _]) dA gZ (fun w => by kernel_rfl) O (O)) ?_
 refine fO 9 O (by kernel_rfl) (bU 0 (l' := [_, _, _]) (us := [_, _, _]) H4.f3 dW O O O (aA (aW (by first | rfl | exact Rd.one ((H4.f2).aS)) (aW (by first | rfl | exact Rd.one ((H4).aS)) bF))) O O) ?_
 rintro _ w7 H7
 have Iz := V.kp (H7.f4.f4.f4.f4)
 refine gV Iz (by kernel_rfl) ?_
 refine qU (aX (lS ?_))
 refine pX (.inl O) (J3 results179 O dA O (by rw [UG]; rfl) (H7).get.2) ?_
 exact ⟨_, _, O, H7.right.f3.right.f2⟩
theorem D6 (H : V w0 w F) (hd : jq w0 F .i32 d dl) (hi : jq w0 F .i32 z il) (b2 : dl.length ≤ 35184372087808) (b3 : il.length ≤ 35184372087808) :
  gJ prog 198 #[edV a d z] w fun v' w' => ∃ d' s', v' = edV a d' s' ∧ V w0 w' (kW 21 .i32 d' il • kW 21 .i32 s' dl • F) := by
 refine iG func198 ntmps198 ?_
 refine iH (jv (iM (l := [_, _, _]) H O O) ?_)
 rintro _ w1 ⟨b1, rfl, H1⟩
 refine jv (fJ (l := [_, _, _]) H1 gZ O) ?_
 rintro _ w2 ⟨b2, rfl, H2⟩
 refine Xi (bD 0 dA O aj O (fZ aK O (H2.f2).get.2 O (bD 2 dA O dM O (fZ ay O (H2.f2).get.2 O (bD 1 dA O dM O (fZ ay O (H2.f2).get.2 O ?_))))))
 obtain ⟨az, cz, ez, -⟩ := fB.open (hi _ (H2.right.right))
 subst ez
 obtain ⟨ad, cd, ed, -⟩ := fB.open (hd _ (H2.right.right))
 subst ed
 refine aV (pI (pl := #[(0, 1), (1, 1), (2, 1)]) (#[_, _, _]) dA gZ (fun w => by kernel_rfl) O (O)) (dY O func179 (vk H2 (fun W HW => hi _ (HW.right.right)) (fun W HW => hd _ (HW.right.right)) (by omega) (by omega)) ?_)
 rintro _ w5 ⟨d5, s5, rfl, H5⟩
 refine aH (bU 0 (l' := [_, _, _]) (us := [_, _, _]) H5.f3 dW O O O (aA (aW (by first | rfl | exact Rd.one ((H5).aS)) (aW (by first | rfl | exact Rd.one ((H5.f2).aS)) bF))) O O) ?_
 rintro _ w6 H6
 refine YU ?_
 refine pX (.inl O) (J3 results198 O dA O (by rw [UG]; rfl) (H6).get.2) ?_
 exact ⟨_, _, O, H6.right.f3.right.f2.f2⟩
end
end Go.Proofs.YtpdeedplgmbopaaGreatDoor
end
section
namespace Go.Proofs.YtpdeedplgmbopaaGreatDoor
open Go.RowKit
section
variable {w0 w : World} {F : HP} {v d s z d2 z2 u1 u2 u3 : Value} {L dl il dl2 il2 l1 l2 l3 : List Int} {a a2 : Int}
def jK (a a2 : Int) (dl il dl2 il2 : List Int) : Nat := if dl2.length = 0 ∧ a2 = a + il.length then 1 else if il.length = 0 ∧ il2.length = 0 ∧ a = a2 + dl2.length then 2 else 0
def jA (k : Nat) (a a2 : Int) : Int := if k = 1 then a else if k = 2 then a2 else 0
def jD (k : Nat) (dl dl2 : List Int) : List Int := if k = 1 then dl else if k = 2 then dl2 ++ dl else []
def jI (k : Nat) (il il2 : List Int) : List Int := if k = 1 then il ++ il2 else []
end
structure dQ where
  a : Int
  d : Value
  dl : List Int
  i : Value
  il : List Int
instance : Inhabited dQ := ⟨⟨0, .slice none 0 0, [], .slice none 0 0, []⟩⟩
def dQ.enc (e : dQ) : List Value := [.int .i64 e.a, e.d, e.i]
theorem dQ.C9 (e : dQ) : e.enc.length = 3 := rfl
def dQ.Imm (I : Hp) (e : dQ) : Prop := CU I .i32 e.d e.dl ∧ CU I .i32 e.i e.il
theorem dQ.Imm.mono {I I' : Hp} {e : dQ} (hl : Hp.le I I') (h : e.Imm I) : e.Imm I' := ⟨h.1.mono hl, h.2.mono hl⟩
def dQ.says (e : dQ) : Int × List Int × List Int := (e.a, e.dl, e.il)
def EX (I : Hp) (es : List dQ) : Prop := ∀ k, k < es.length → (es.getD k default).Imm I
theorem EX.mono {I I' : Hp} {es : List dQ} (hl : Hp.le I I') (h : EX I es) : EX I' es := fun k hk => (h k hk).mono hl
theorem EX.app {I : Hp} {es fs : List dQ} (h : EX I es) (g : EX I fs) : EX I (es ++ fs) := fun k hk => by
  by_cases hl : k < es.length
  · rw [tu hl]; exact h k hl
  · rw [rD (by omega)]; exact g _ (by simp at hk; omega)
theorem EX.one {I : Hp} {e : dQ} (h : e.Imm I) : EX I [e] := fun k hk => by
  obtain rfl : k = 0 := by simp at hk; omega
  exact h
def kK (es : List dQ) : HP := know (fun I => EX I es) fun _ _ hl h => h.mono hl
def edK (e : dQ) : HP := know (fun I => e.Imm I) fun _ _ hl h => h.mono hl
def Js (v : Value) (es : List dQ) : HP := Row 189 3 v es.length (es.flatMap dQ.enc) • kK es
def AU (I : Hp) (sz : Nat) (v : Value) (n : Nat) (xs : List Value) : Prop := xs.length = n * sz ∧ ∃ a c, v = .slice a n c ∧ n ≤ c ∧ (c : Int) ≤ 9223372036854775807 ∧
  (0 < n → ∃ b o cs e fr, a = some ⟨b, o, none⟩ ∧ I b = some (.cells cs e fr) ∧ ∀ j, j < n * sz → cs[o + j]? = some (xs.getD j undef))
theorem AU.mono {I I' : Hp} {sz n : Nat} {v : Value} {xs : List Value} (hl : Hp.le I I') (h : AU I sz v n xs) : AU I' sz v n xs := by
  obtain ⟨h0, a, c, h1, h2, h3, h4⟩ := h
  exact ⟨h0, a, c, h1, h2, h3, fun hp => let ⟨b, o, cs, e, fr, e1, e2, e3⟩ := h4 hp; ⟨b, o, cs, e, fr, e1, hl _ _ e2, e3⟩⟩
theorem AU.rd {w : World} {m : Nat} {I : Hp} {sz n : Nat} {v : Value} {xs : List Value} (h : AU I sz v n xs) (hI : ∀ k o, I k = some o → m ≤ k ∧ w.heap[k]? = some o) : Rd w sz v n xs := by
  obtain ⟨h0, a, c, h1, h2, h3, h4⟩ := h
  exact ⟨h0, a, c, h1, h2, h3, fun hp => let ⟨b, o, cs, e, fr, e1, e2, e3⟩ := h4 hp; ⟨b, o, e1, fun j hj => jd (hI _ _ e2).2 (e3 j hj)⟩⟩
theorem AU.UA {I : Hp} {sz n : Nat} {v : Value} {xs : List Value} (h : AU I sz v n xs) : v.oneCell' = true := by obtain ⟨_, a, c, rfl, _⟩ := h; rfl
def ElI (I : Hp) (v : Value) (es : List dQ) : Prop := AU I 3 v es.length (es.flatMap dQ.enc) ∧ EX I es
theorem ElI.mono {I I' : Hp} {v : Value} {es : List dQ} (hl : Hp.le I I') (h : ElI I v es) : ElI I' v es := ⟨h.1.mono hl, h.2.mono hl⟩
def Bc (v : Value) (es : List dQ) : HP := know (fun I => ElI I v es) fun _ _ hl h => h.mono hl
def BF (I : Hp) (gs : List (Value × List dQ)) : Prop := ∀ k, k < gs.length → ElI I (gs.getD k default).1 (gs.getD k default).2
theorem BF.mono {I I' : Hp} {gs : List (Value × List dQ)} (hl : Hp.le I I') (h : BF I gs) : BF I' gs := fun k hk => (h k hk).mono hl
theorem BF.app {I : Hp} {es fs : List (Value × List dQ)} (h : BF I es) (g : BF I fs) : BF I (es ++ fs) := fun k hk => by
  by_cases hl : k < es.length
  · rw [tu hl]; exact h k hl
  · rw [rD (by omega)]; exact g _ (by simp at hk; omega)
theorem BF.one {I : Hp} {v : Value} {es : List dQ} (h : ElI I v es) : BF I [(v, es)] := fun k hk => by
  obtain rfl : k = 0 := by simp at hk; omega
  exact h
theorem BF.take {I : Hp} {gs : List (Value × List dQ)} (h : BF I gs) (n : Nat) : BF I (gs.take n) := fun k hk => by
  simp at hk
  rw [D5 (by omega)]
  exact h k (by omega)
def nK (gs : List (Value × List dQ)) : HP := know (fun I => BF I gs) fun _ _ hl h => h.mono hl
def BG (v : Value) (gs : List (Value × List dQ)) : HP := Row 80 1 v gs.length (gs.map (·.1)) • nK gs
section
variable {w0 w : World} {F : HP} {v u : Value} {es fs : List dQ} {e : dQ} {gs : List (Value × List dQ)} {a : Int} {d i : Value} {dl il : List Int}
theorem V.MB (H : V w0 w F) : V w0 w (kK [] • F) := H.uY fun I k hk => by simp at hk
theorem V.F6 (H : V w0 w F) : V w0 w (nK [] • F) := H.uY fun I k hk => by simp at hk
theorem V.rE (H : V w0 w F) (a : Option Addr) : V w0 w (Js (.slice a 0 0) [] • F) := (H.MB.iO (e := 189) (sz := 3) a).deep
theorem V.F7 (H : V w0 w F) (a : Option Addr) : V w0 w (BG (.slice a 0 0) [] • F) := (H.F6.iO (e := 80) (sz := 1) a).deep
theorem V.ZO (H : V w0 w (Js v es • F)) : V w0 w (Row 189 3 v es.length (es.flatMap dQ.enc) • kK es • F) := H.flat
theorem V.XL (H : V w0 w (BG v gs • F)) : V w0 w (Row 80 1 v gs.length (gs.map (·.1)) • nK gs • F) := H.flat
theorem V.Dc (H : V w0 w (Row 189 3 v (es.length + 1) (es.flatMap dQ.enc ++ [.int .i64 a, d, i]) • mP .i32 d dl • mP .i32 i il • kK es • F)) : V w0 w (Js v (es ++ [⟨a, d, dl, i, il⟩]) • F) := by
  have h1 : V w0 w (mP .i32 d dl • mP .i32 i il • kK es • Row 189 3 v (es.length + 1) (es.flatMap dQ.enc ++ [.int .i64 a, d, i]) • F) := H.of_eq (by ac_rfl)
  have h2 : V w0 w (edK ⟨a, d, dl, i, il⟩ • kK es • Row 189 3 v (es.length + 1) (es.flatMap dQ.enc ++ [.int .i64 a, d, i]) • F) := h1.DR (tV (fun I h g => ⟨h, g⟩) _)
  have h3 : V w0 w (kK (es ++ [⟨a, d, dl, i, il⟩]) • Row 189 3 v (es.length + 1) (es.flatMap dQ.enc ++ [.int .i64 a, d, i]) • F) := h2.DR (tV (fun I h g => g.app (EX.one h)) _)
  refine V.deep (h3.swap.of_eq ?_)
  rw [List.length_append, List.flatMap_append]
  simp [dQ.enc]
theorem V.oP (H : V w0 w (Js v es • F)) : V w0 w (Bc v es • F) := by
  have hl := H.ZO.wY
  have H := H.ZO
  rcases H.tK with ⟨a, rfl, h1, h2, H1⟩ | ⟨g, o, c, cur, rfl, h2, h3, h4, h5, H1⟩
  · refine H1.DR (oC (fun I hI => ⟨⟨hl, a, 0, by rw [h1], by omega, by decide, fun h => by omega⟩, hI⟩) F)
  · exact H1.freeze.DR (tV (fun I hI hE => ⟨⟨hl, _, c, rfl, h2, h3, fun _ => ⟨g, o, cur, _, (0, 0), rfl, hI, h5⟩⟩, hE⟩) F)
theorem V.uJ (H : V w0 w (Bc v es • F)) : Rd w 3 v es.length (es.flatMap dQ.enc) := let ⟨I, h, hI⟩ := H.qC; h.1.rd hI
theorem V.abC (H : V w0 w (Bc v es • F)) {k : Nat} (hk : k < es.length) : fB w .i32 (es.getD k default).d (es.getD k default).dl := let ⟨I, h, hI⟩ := H.qC; (h.2 k hk).1.rd hI
theorem V.abD (H : V w0 w (Bc v es • F)) {k : Nat} (hk : k < es.length) : fB w .i32 (es.getD k default).i (es.getD k default).il := let ⟨I, h, hI⟩ := H.qC; (h.2 k hk).2.rd hI
theorem V.MC (H : V w0 w (nK gs • F)) {k : Nat} (hk : k < gs.length) : V w0 w (Bc (gs.getD k default).1 (gs.getD k default).2 • nK gs • F) := H.qW.DR (oC (fun I h => h k hk) _)
theorem V.MF (H : V w0 w (nK gs • F)) (n : Nat) : V w0 w (nK (gs.take n) • F) := H.DR (oC (fun I h => h.take n) _)
theorem V.qM (H : V w0 w (Row 80 1 v (gs.length + 1) (gs.map (·.1) ++ [u]) • Bc u es • nK gs • F)) : V w0 w (BG v (gs ++ [(u, es)]) • F) := by
  have h1 : V w0 w (Bc u es • nK gs • Row 80 1 v (gs.length + 1) (gs.map (·.1) ++ [u]) • F) := H.of_eq (by ac_rfl)
  have h3 : V w0 w (nK (gs ++ [(u, es)]) • Row 80 1 v (gs.length + 1) (gs.map (·.1) ++ [u]) • F) := h1.DR (tV (fun I h g => g.app (BF.one h)) _)
  refine V.deep (h3.swap.of_eq ?_)
  rw [List.length_append, List.map_append]
  rfl
theorem V.zQ (H : V w0 w (kK es • F)) : ∀ x ∈ es.flatMap dQ.enc, x.oneCell' = true := by
  obtain ⟨I, h, hI⟩ := H.qC
  intro x hx
  obtain ⟨e, he, hx⟩ := List.mem_flatMap.1 hx
  obtain ⟨k, hk, rfl⟩ := List.getElem_of_mem he
  have := h k hk
  rw [List.getD_eq_getElem?_getD, List.getElem?_eq_getElem hk] at this
  simp [dQ.enc] at hx
  rcases hx with rfl | rfl | rfl
  · rfl
  · exact this.1.UA
  · exact this.2.UA
end
end Go.Proofs.YtpdeedplgmbopaaGreatDoor
end
