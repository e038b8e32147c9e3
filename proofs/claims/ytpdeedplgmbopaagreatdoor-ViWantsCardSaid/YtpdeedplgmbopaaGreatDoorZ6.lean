import Derived.Test.YtpdeedplgmbopaaGreatDoorZ4
import Derived.Test.YtpdeedplgmbopaaGreatDoorZ5
import Derived.Test.YtpdeedplgmbopaaGreatDoorZ3
set_option linter.unusedSimpArgs false
set_option linter.unusedVariables false
/- Texts of mine, joined, their names in short: Buf Buf2 Buf3 LineP Move BLive Same Apply BufP Ring Ring2 Ring3 RingAny LL Flat Undo1 Undo2 Eds. -/
section
namespace Go.Proofs.YtpdeedplgmbopaaGreatDoor
open Go.RowKit
open _root_.Go.Proofs.Tryz
theorem Mc {s i j : Nat} {v : Value} (h : v.oneCell' = true) : (wP s i j v).oneCell' = true := by cases v <;> simp_all [wP, Value.oneCell']
def lC (v : Value) (f t pt mk : Int) : Array Value := #[.bool true, v, .int .i64 f, .int .i64 t, .int .i64 pt, .int .i64 mk]
theorem XJ {a b : Value} (h : a.oneCell' = true) (k : b.oneCell' = true) : ∀ u ∈ [a, b], u.oneCell' = true := by
  intro u hu; simp at hu; rcases hu with rfl | rfl
  · exact h
  · exact k
section
variable {v u : Value} {f t pt mk x : Int}
theorem F7 : (lC v f t pt mk).size = 6 := rfl
theorem Ku : (lC v f t pt mk).setIfInBounds 2 (.int .i64 x) = lC v x t pt mk := rfl
theorem O6 : (lC v f t pt mk).setIfInBounds 3 (.int .i64 x) = lC v f x pt mk := rfl
theorem IC : (lC v f t pt mk).setIfInBounds 4 (.int .i64 x) = lC v f t x mk := rfl
end
def jg (p : Nat) (L : List Int) (pt mk : Int) : HP := rV fun (x : Value × List Int × Nat × Nat) =>
  fact (x.2.2.1 ≤ x.2.2.2 ∧ x.2.2.2 ≤ x.2.1.length ∧ L = x.2.1.take x.2.2.1 ++ x.2.1.drop x.2.2.2 ∧ L.length ≤ 1024 ∧ x.2.1.length ≤ 4096 ∧ (0 ≤ pt ∧ pt ≤ L.length) ∧ (-1 ≤ mk ∧ mk ≤ L.length)) •
    dM p (.cells (lC x.1 x.2.2.1 x.2.2.2 pt mk) 197 (0, 0)) • kT 21 .i32 x.1 x.2.1
section
variable {w0 w : World} {F : HP} {p : Nat} {L : List Int} {pt mk : Int}
theorem V.buf (H : V w0 w (jg p L pt mk • F)) : ∃ (a : Option Addr) (c : Nat) (xs : List Int) (f t : Nat), f ≤ t ∧ t ≤ xs.length ∧ L = xs.take f ++ xs.drop t ∧ L.length ≤ 1024 ∧ xs.length ≤ 4096 ∧ (0 ≤ pt ∧ pt ≤ L.length) ∧ (-1 ≤ mk ∧ mk ≤ L.length) ∧ xs.length ≤ c ∧ (c : Int) ≤ 9223372036854775807 ∧ L.length + t = xs.length + f ∧
    V w0 w (dM p (.cells (lC (.slice a xs.length c) f t pt mk) 197 (0, 0)) • kT 21 .i32 (.slice a xs.length c) xs • F) := by
  obtain ⟨⟨v, xs, f, t⟩, H⟩ := H.lQ
  obtain ⟨⟨h1, h2, h3, h4, h5, h6, h7⟩, H⟩ := H.flat.fact
  have H := H.flat
  obtain ⟨a, c, hv, hc1, hc2, _⟩ := (H.swap.aT).form
  dsimp only at *
  subst hv
  refine ⟨a, c, xs, f, t, h1, h2, h3, h4, h5, h6, h7, hc1, hc2, ?_, H⟩
  rw [h3]; simp; omega
theorem V.F8 {v : Value} {xs : List Int} {f t : Nat} (h1 : f ≤ t) (h2 : t ≤ xs.length) (h3 : L = xs.take f ++ xs.drop t) (h4 : L.length ≤ 1024) (h5 : xs.length ≤ 4096) (h6 : 0 ≤ pt ∧ pt ≤ L.length) (h7 : -1 ≤ mk ∧ mk ≤ L.length)
    (H : V w0 w (dM p (.cells (lC v f t pt mk) 197 (0, 0)) • kT 21 .i32 v xs • F)) : V w0 w (jg p L pt mk • F) :=
  V.iD (v, xs, f, t) (V.deep (V.kE ⟨h1, h2, h3, h4, h5, h6, h7⟩ (V.deep H)))
theorem ru (t : TypeId) {cs : Array Value} {fr : Nat × Nat} {m : Bool} (hb : w.heap[p]? = some (.cells cs t fr)) (h0 : cs[0]? = some (.bool m)) :
    gQ prog 131 #[.pointer (some ⟨p, 0, none⟩)] w fun v w' => v = .bool (!m) ∧ w = w' := by
  refine iC func131 ntmps131 ?_
  refine jk O (bT O (Z (iT qo O O) (YW O (fun h1 => ?_))))
  (try simp only [aF] at h1)
  refine bC (bQ O (bC (dL O (bC (bF 0 eY O aQ O (bC (gq bM O hb h0 (bC (Z (lS O) (iJ O O (fF O (dG results131 O ?_))))))))))))
  exact ⟨O, O⟩
theorem Md (H : V w0 w (jg p L pt mk • F)) : gQ prog 132 #[.pointer (some ⟨p, 0, none⟩)] w fun v w' => v = .int .i64 L.length ∧ zu w w' := by
 obtain ⟨a, c, xs, f, t, h1, h2, h3, h4, h5, h6, h7, hc1, hc2, hl, H1⟩ := H.buf
 have hb := H1.get.2
 refine iC func132 ntmps132 ?_
 refine jk O (aO (bT O (eG O func131 (ru _ hb O) ?_)))
 rintro _ _ ⟨rfl, rfl⟩
 refine iK (pW (fV (aO ?_)))
 refine zF (n := 16) [0, 1, 2, 3, 4, 5, 6, 7, 8, 9, 10, 11, 12, 13, 14, 15] (fun W => W.heap = w.heap) (by kernel_rfl) (by kernel_rfl) O ?_
 have hS0 : (fun W => W.heap = w.heap) (w.drew) := rfl
 have H3d := H1.drew
 refine jE 0 O hS0 O (kJ 1 O hS0 O (gU 2 O hS0 1 eY O dN O ?_))
 refine jQ 3 O hS0 (fun W hW => kC ay O (by rw [hW]; exact hb) O) ?_
 refine jC 4 O hS0 (fun _ => nM ay O) (jE 5 O hS0 O (kJ 6 O hS0 O (gU 7 O hS0 3 eY O aj O ?_)))
 refine jQ 8 O hS0 (fun W hW => kC aN O (by rw [hW]; exact hb) O) ?_
 refine jE 9 O hS0 O (kJ 10 O hS0 O (gU 11 O hS0 2 eY O aj O ?_))
 refine jQ 12 O hS0 (fun W hW => kC aN O (by rw [hW]; exact hb) O) ?_
 refine jC 13 O hS0 (fun _ => lu O O (by omega)) (jC 14 O hS0 (fun _ => lu O O (by omega)) (jC 15 O hS0 (fun _ => dQ O) (qR (aW (mG (dG results132 O ?_))))))
 exact ⟨by congr 1; omega, zu.refl _ |>.drew⟩
theorem IE (H : V w0 w (jg p L pt mk • F)) : gQ prog 127 #[.pointer (some ⟨p, 0, none⟩)] w fun v w' => v = .int .i64 pt ∧ w = w' := by
  obtain ⟨a, c, xs, f, t, h1, h2, h3, h4, h5, h6, h7, hc1, hc2, hl, H1⟩ := H.buf
  have hb := H1.get.2
  refine iC func127 ntmps127 ?_
  refine jk O (aO (bT O (eG O func131 (ru _ hb O) ?_)))
  rintro _ _ ⟨rfl, rfl⟩
  refine iK (pW (fV (bT O (dL O (bF 4 eY O aj O (gq aN O hb O (fF O (dG results127 O ?_))))))))
  exact ⟨O, O⟩
theorem Kv (H : V w0 w (jg p L pt mk • F)) : gQ prog 128 #[.pointer (some ⟨p, 0, none⟩)] w fun v w' => v = .int .i64 mk ∧ w = w' := by
  obtain ⟨a, c, xs, f, t, h1, h2, h3, h4, h5, h6, h7, hc1, hc2, hl, H1⟩ := H.buf
  have hb := H1.get.2
  refine iC func128 ntmps128 ?_
  refine jk O (aO (bT O (eG O func131 (ru _ hb O) ?_)))
  rintro _ _ ⟨rfl, rfl⟩
  refine iK (pW (fV (bT O (dL O (bF 5 eY O aj O (gq aN O hb O (fF O (dG results128 O ?_))))))))
  exact ⟨O, O⟩
theorem Kw (H : V w0 w (jg p L pt mk • F)) : gQ prog 126 #[.pointer (some ⟨p, 0, none⟩)] w fun v w' => V w0 w' (kT 21 .i32 v L • jg p L pt mk • F) := by
 obtain ⟨a, c, xs, f, t, h1, h2, h3, h4, h5, h6, h7, hc1, hc2, hl, H1⟩ := H.buf
 have hb := H1.get.2
 refine iC func126 ntmps126 ?_
 refine jk O (aO (bT O (eG O func131 (ru _ hb O) ?_)))
 rintro _ _ ⟨rfl, rfl⟩
 refine iK (pW (fV (aO ?_)))
 refine zF (n := 21) [0, 1, 2, 3, 4, 5, 6, 7, 8, 9, 10, 11, 12, 13, 14, 15, 16, 17, 18, 19, 20] (fun W => W.heap[p]? = some (.cells (lC (.slice a xs.length c) f t pt mk) 197 (0, 0))) (by kernel_rfl) (by kernel_rfl) O ?_
 have hS0 : (fun W => W.heap[p]? = some (.cells (lC (.slice a xs.length c) f t pt mk) 197 (0, 0))) (w.drew) := hb
 have H3d := H1.drew
 refine jE 0 O hS0 O (kJ 1 O hS0 O (gU 2 O hS0 1 eY O dN O (jQ 3 O hS0 (fun W hW => kC ay O hW O) (jE 4 O hS0 O (kJ 5 O hS0 O (gU 6 O hS0 2 eY O aj O (jQ 7 O hS0 (fun W hW => kC aN O hW O) (jC 8 O hS0 (fun _ => CS ay bK O O O (by omega)) ?_))))))))
 refine jE 9 O hS0 O (kJ 10 O hS0 O (gU 11 O hS0 1 eY O dN O (jQ 12 O hS0 (fun W hW => kC ay O hW O) (jE 13 O hS0 O (kJ 14 O hS0 O (gU 15 O hS0 3 eY O aj O (jQ 16 O hS0 (fun W hW => kC aN O hW O) (jC 17 O hS0 (fun _ => CS ay bK O O O (by omega)) ?_))))))))
 refine oC 18 O (YU (vs := [wP 1 0 f (.slice a xs.length c), wP 1 t xs.length (.slice a xs.length c)]) H3d iM dN zeroValue22 O O O (by decide) (XJ (Mc O) (Mc O))) ?_
 rintro _ w2 ⟨b2, rfl, H2⟩
 have hS2 : (fun W => W.heap[p]? = some (.cells (lC (.slice a xs.length c) f t pt mk) 197 (0, 0))) w2 := H2.swap.get.2
 refine YT hS2 ?_
 refine oC 19 O (yJ O func172 (L9 (l1 := xs.take f) (l2 := xs.drop t) H2 (fun W HW => eX.upto HW.rot.aT (by omega)) (fun W HW => eX.from HW.rot.aT (by omega)) (by simp; omega))) ?_
 rintro u w3 H3
 have hS3 : (fun W => W.heap[p]? = some (.cells (lC (.slice a xs.length c) f t pt mk) 197 (0, 0))) w3 := H3.rot.get.2
 refine YT hS3 ?_
 refine jC 20 O hS3 (fun _ => dQ O) (qR (aW (mG (dG results126 O ?_))))
 rw [← h3] at H3
 exact (V.F8 h1 h2 h3 h4 h5 h6 h7 H3.swap.right.d3).swap
theorem Me {v : Value} {l : List Int} (H : V w0 w F) (hr : jM w0 F .i32 v l) (hl : l.length ≤ 1024) : gQ prog 151 #[v] w fun v' w' => ∃ p, v' = .tuple #[.pointer (some ⟨p, 0, none⟩), .int .i64 0] ∧ V w0 w' (jg p l l.length (-1) • F) := by
 obtain ⟨a, c, rfl, _, _, _⟩ := (hr w H).open
 refine iC func151 ntmps151 ?_
 refine iy (fU O (vZ O (bT O (Z (nM ay O) (Z (jc O O) (iK (wcB O (fun h1 => ?_))))))))
 (try simp only [aF] at h1)
 refine fV (bT O (eG O func71 (pK H hr (by omega)) ?_))
 rintro u w1 H1
 obtain ⟨au, cu, hu, _⟩ := (H1.aT).form
 subst hu
 refine bQ O (Z (nM ay O) (Z (pI (pl := #[(0, 1), (1, 1), (2, 1), (3, 1), (4, 1), (5, 1)]) (lC (.slice au l.length cu) 0 0 l.length (-1)) eY zeroValue197 (fun w => by kernel_rfl) O (by kernel_rfl)) (jy (QE H1 O) ?_)))
 rintro _ w2 ⟨b2, rfl, H2⟩
 refine vZ O ?_
 have HB : V w0 w2 (dM b2 (.cells (lC (.slice au l.length cu) 0 0 l.length (-1)) 197 (0, 0)) • kT 21 .i32 (.slice au l.length cu) l • F) := H2
 refine aB (jF O O (bQ O (Z (nM ay O) (bQ O (Z (nM ay O) (dL O (bF 2 eY O aj O (aK (Aq HB aj O O O (by rw [F7]; decide)) ?_))))))))
 rintro _ w3 HB1
 rw [Ku] at HB1
 refine dL O (bF 3 eY O aj O (aK (Aq HB1 aj O O O (by rw [F7]; decide)) ?_))
 rintro _ w4 HB2
 rw [O6] at HB2
 refine qQ O (fU O (fF O (FX results151 O O ?_)))
 exact ⟨_, O, V.F8 (f := l.length) (t := l.length) (Nat.le_refl _) (Nat.le_refl _) (by simp) hl (by omega) (by omega) (by omega) HB2⟩
end
def acN (L : List Int) (i r : Nat) : List Int := QF (QF (List.replicate (L.length + r + 16) 0) 0 (L.take i)) (i + r + 16) (L.drop i)
section
variable {w0 w : World} {F : HP} {p : Nat} {L : List Int} {pt mk : Int}
theorem CY (H : V w0 w (jg p L pt mk • F)) : gQ prog 131 #[.pointer (some ⟨p, 0, none⟩)] w fun v w' => v = .bool false ∧ w = w' := by
  obtain ⟨a, c, xs, f, t, h1, h2, h3, h4, h5, h6, h7, hc1, hc2, hl, H1⟩ := H.buf
  exact ru _ H1.get.2 rfl
def ZJ (pt i j n : Int) : Int := if j < pt then pt + (n - (j - i)) else if i ≤ pt then i + n else pt
def ZK (mk i j n : Int) : Int := if j < mk then mk + (n - (j - i)) else if i < mk then i else mk
def acJ (at_ : Int) (d i : Value) : Array Value := #[.int .i64 at_, d, i]
variable {v : Value} {l : List Int} {i j : Int}
end
end Go.Proofs.YtpdeedplgmbopaaGreatDoor
end
section
namespace Go.Proofs.YtpdeedplgmbopaaGreatDoor
open Go.RowKit
section
variable {w0 w : World} {F : HP} {p : Nat} {L : List Int} {pt mk : Int} {v : Value} {l : List Int} {i j : Int}
end
end Go.Proofs.YtpdeedplgmbopaaGreatDoor
end
section
namespace Go.Proofs.YtpdeedplgmbopaaGreatDoor
open Go.RowKit
open _root_.Go.Proofs.Tryz
def mvP (n : Nat) (pt x : Int) : Int := if 0 ≤ x ∧ x ≤ n then x else pt
def mvE (n : Nat) (x : Int) : Int := if 0 ≤ x ∧ x ≤ n then 0 else 70
def rZ (v : Value) (pt mk : Int) : Array Value := #[v, .int .i64 pt, .int .i64 mk]
theorem Sj {v : Value} {pt mk : Int} (h : v.oneCell' = true) : ∀ u ∈ (rZ v pt mk).toList, u.oneCell' = true := by
  intro u hu
  simp [rZ] at hu
  rcases hu with rfl | rfl | rfl
  · exact h
  · rfl
  · rfl
section
variable {w0 w : World} {F : HP} {p : Nat} {L : List Int} {pt mk x : Int} {v : Value} {l : List Int}
theorem Ky (H : V w0 w (jg p L pt mk • F)) : gQ prog 82 #[.pointer (some ⟨p, 0, none⟩), .int .i64 x] w fun v w' => v = .int .i64 (mvE L.length x) ∧ V w0 w' (jg p L (mvP L.length pt x) mk • F) := by
 refine nH func82 ntmps82 ?_
 refine jk O (aO (aZ (bT O (eG O func131 (CY H) ?_))))
 rintro _ _ ⟨rfl, rfl⟩
 refine gB O (bG O (fun h1 => ?_) (fun h1 => ?_))
 ·(try simp only [aF] at h1)
  exfalso; first | contradiction | omega
 ·(try simp only [aF] at h1)
  refine bT O (Z (gZ O O) (jL O (fun h2 => ?_) (fun h2 => ?_)))
  ·(try simp only [aF] at h2)
   refine bH (bH (bH (bH (jw O O (gB O (Iz (jd O (aS (aG (dG results82 O ?_))))))))))
   exact ⟨by rw [mvE, if_neg (by omega)], by rw [mvP, if_neg (by omega)]; exact H⟩
  ·(try simp only [aF] at h2)
   refine bC (bQ O (bC (bQ O (bC (eG O func132 (Md H) ?_)))))
   rintro _ w2 ⟨rfl, hD⟩
   have HL := H.YN hD
   refine bC (Z (jc O O) (iJ O O (gB O (bG O (fun h3 => ?_) (fun h3 => ?_)))))
   ·(try simp only [aF] at h3)
    refine jd O (aS (aG (dG results82 O ?_)))
    exact ⟨by rw [mvE, if_neg (by omega)], by rw [mvP, if_neg (by omega)]; exact HL⟩
   ·(try simp only [aF] at h3)
    refine bU (aJ (aW (aO ?_)))
    obtain ⟨a, c, xs, f, t, h11, h12, h13, h14, h15, h16, h17, hc1, hc2, hl, HB⟩ := HL.buf
    refine aB (jF O O (dL O (bF 4 eY O aj O (aK (Aq HB aj O O O (by rw [F7]; decide)) ?_))))
    rintro _ w3 H3
    rw [IC] at H3
    refine iK (jd O (dG results82 O ?_))
    exact ⟨by rw [mvE, if_pos (by omega)], by rw [mvP, if_pos (by omega)]; exact V.F8 h11 h12 h13 h14 h15 (by omega) h17 H3⟩
theorem CZ (H : V w0 w (jg p L pt mk • F)) : gQ prog 79 #[.pointer (some ⟨p, 0, none⟩)] w fun v' w' => ∃ u, v' = .agg (rZ u pt mk) ∧ V w0 w' (kT 21 .i32 u L • jg p L pt mk • F) := by
 refine iC func79 ntmps79 ?_
 refine iy (jy (Fj H zeroValue46) ?_)
 rintro _ w1 ⟨b1, rfl, H1⟩
 refine qQ O (eG O func126 (Kw H1.swap) ?_)
 rintro u w2 H2
 obtain ⟨au, cu, hu, _⟩ := (H2.aT).form
 subst hu
 refine bQ O (eG O func127 (IE H2.swap) ?_)
 rintro _ _ ⟨rfl, rfl⟩
 refine bQ O (eG O func128 (Kv H2.swap) ?_)
 rintro _ _ ⟨rfl, rfl⟩
 refine Z (pI (pl := #[(0, 1), (1, 1), (2, 1)]) (rZ (.slice au L.length cu) pt mk) jo zeroValue46 (fun w => by kernel_rfl) O (by kernel_rfl)) (aK (xE (cs := rZ (.slice au L.length cu) pt mk) H2.rot sizeOf46 O O O O (Sj O)) ?_)
 rintro _ w5 H5
 refine YV ?_
 refine XB (.inl O) results79 O jo O (by rw [UC]; rfl) H5.get.2 ?_
 exact ⟨_, O, H5.right⟩
end
end Go.Proofs.YtpdeedplgmbopaaGreatDoor
end
section
namespace Go.Proofs.YtpdeedplgmbopaaGreatDoor
open Go.RowKit
def UD (g : Int → Bool) (l : List Int) (at_ : Nat) : Nat := at_ + ((l.drop at_).takeWhile g).length
def UE (g : Int → Bool) (l : List Int) (at_ : Nat) : Nat := at_ - ((l.take at_).reverse.takeWhile g).length
def C9 (n : Nat) (x : Int) : Nat := (min (max x 0) n).toNat
section
variable {w0 w : World} {F G : HP} {v fv : Value} {l : List Int} {g : Int → Bool}
def abj (l : List Int) (x : Int) : Nat := UD dP l (UD (fun r => !dP r) l (C9 l.length x))
def ZL (l : List Int) (x : Int) : Nat := UE dP l (UE (fun r => !dP r) l (C9 l.length x))
def QK (r : Int) : Bool := decide (zK r ≠ 0) || jX r
def aee (l : List Int) (x : Int) : Nat := if C9 l.length x < l.length then UD (fun r => !QK r) l (C9 l.length x + 1) else l.length
def aef (l : List Int) (x : Int) : Nat := UE (fun r => !QK r) l (C9 l.length x) - 1
end
section
variable {w0 w : World} {F : HP} {p : Nat} {L : List Int} {pt mk : Int} {v : Value} {l : List Int}
end

section
variable {w0 w : World} {F : HP} {p : Nat} {L : List Int} {pt mk a : Int} {d i : Value} {dl il : List Int}
end
end Go.Proofs.YtpdeedplgmbopaaGreatDoor
end
section
namespace Go.Proofs.YtpdeedplgmbopaaGreatDoor
open Go.RowKit
open _root_.Go.Proofs.Tryz
def ED (L : List Int) (i j : Int) (l : List Int) : Int := if i < 0 ∨ L.length < i ∨ j < i ∨ L.length < j then 70 else if 1024 < L.length - (j - i) + l.length then 3 else 0
def YX (L : List Int) (i j : Int) (l : List Int) : List Int := if ED L i j l = 0 then L.take i.toNat ++ l ++ L.drop j.toNat else L
def YZ (L : List Int) (pt i j : Int) (l : List Int) : Int := if ED L i j l = 0 then ZJ pt i j l.length else pt
def Y0 (L : List Int) (mk i j : Int) (l : List Int) : Int := if ED L i j l = 0 then ZK mk i j l.length else mk
def abk (L : List Int) (i j : Int) (l : List Int) : Int := if ED L i j l = 0 then i else 0
def abl (L : List Int) (i j : Int) (l : List Int) : List Int := if ED L i j l = 0 then (L.drop i.toNat).take (j - i).toNat else []
def abm (L : List Int) (i j : Int) (l : List Int) : List Int := if ED L i j l = 0 then l else []
section
variable {w0 w : World} {F : HP} {p : Nat} {L : List Int} {pt mk : Int} {v d s : Value} {l dl il : List Int} {i j a x : Int}
def smE (L : List Int) (x : Int) : Int := if x < -1 ∨ L.length < x then 70 else 0
def smM (L : List Int) (mk x : Int) : Int := if x < -1 ∨ L.length < x then mk else x
def swE (mk : Int) : Int := if mk < 0 then 6 else 0
def swP (pt mk : Int) : Int := if mk < 0 then pt else mk
def swM (pt mk : Int) : Int := if mk < 0 then mk else pt
theorem IG (H : V w0 w (jg p L pt mk • F)) : gQ prog 129 #[.pointer (some ⟨p, 0, none⟩)] w fun v' w' => ∃ q, v' = .pointer (some ⟨q, 0, none⟩) ∧ V w0 w' (jg q L pt mk • jg p L pt mk • F) := by
 refine iC func129 ntmps129 ?_
 refine jk O (aO (bT O (eG O func131 (CY H) ?_)))
 rintro _ _ ⟨rfl, rfl⟩
 refine iK (pW (fV (aO ?_)))
 obtain ⟨aeD, aeE, aeF, f_p, t_p, abn, abo, abp, abq, abr, abt, aeG, aeH, aeI, aeg, abu⟩ := (H).buf
 refine aB (nG O O (Z (fD eY O sizeOf197 O O (abu).get.2) (jy (fM (l := [_, _, _, _, _, _]) abu zeroValue197 O) ?_)))
 rintro _ w3 ⟨b3, rfl, H3⟩
 refine aK (bW 0 (l' := [_, _, _, _, _, _]) (us := [_, _, _, _, _, _]) H3 sizeOf197 O O O (aA (aX (by first | rfl | exact Rd.one ((H3.f3).aT)) (aA (aA (aA (aA bD)))))) O O) ?_
 rintro _ w4 H4
 refine qQ O (dL O (bF 1 eY O dN O (gq ay O (H4.f2).get.2 O (eG O func71 (pK H4 (fun W HW => (HW.f3).aT) (by omega)) ?_))))
 rintro u5 w5 H5
 refine bF 1 eY O dN O (aK (fE 1 (l' := [_, _, _, _, _, _]) H5.f2 dN O O (by first | rfl | exact Rd.one ((H5).aT)) O O) ?_)
 rintro _ w6 H6
 refine iK (jd O (dG results129 O ?_))
 exact ⟨_, O, (V.F8 abn abo abp abq abr abt (by omega) (V.F8 abn abo abp abq abr abt (by omega) H6.f4.f4.f4.f4).f2.f3.f2).f2⟩
def abv (L : List Int) (a : Int) (dl : List Int) : Bool := decide ((dl.length : Int) ≤ L.length - a) && ((L.drop a.toNat).take dl.length == dl)
def ZM (L : List Int) (a : Int) (dl il : List Int) : Int := if a < 0 ∨ L.length < a then 70 else if abv L a dl then ED L a (a + dl.length) il else 71
def acO (L : List Int) (a : Int) (dl il : List Int) : List Int := if ZM L a dl il = 0 then YX L a (a + dl.length) il else L
def acP (L : List Int) (pt a : Int) (dl il : List Int) : Int := if ZM L a dl il = 0 then YZ L pt a (a + dl.length) il else pt
def acQ (L : List Int) (mk a : Int) (dl il : List Int) : Int := if ZM L a dl il = 0 then Y0 L mk a (a + dl.length) il else mk
end
def iE (s : List Value) (h n p : Nat) : Array Value := (Value.bool true :: (s ++ [.int .i64 h, .int .i64 n, .int .i64 p])).toArray
section
variable {s : List Value} {h n p : Nat}
theorem D6 (hs : s.length = 60) : (iE s h n p).size = 64 := by simp [iE, hs]
theorem Kz : (iE s h n p)[0]? = some (.bool true) := by simp [iE]
theorem Sl (hs : s.length = 60) {i : Nat} (hi : i < 60) : (iE s h n p)[1 + i]? = some (s.getD i undef) := by
  simp [iE, Nat.add_comm 1 i, List.getElem?_append_left (show i < s.length by omega), List.getD_eq_getElem?_getD, show i < s.length by omega]
theorem Sm (hs : s.length = 60) : (iE s h n p)[61]? = some (.int .i64 h) := by simp [iE, hs]
theorem su (hs : s.length = 60) : (iE s h n p)[62]? = some (.int .i64 n) := by simp [iE, hs]
theorem F9 (hs : s.length = 60) : (iE s h n p)[63]? = some (.int .i64 p) := by simp [iE, hs]
theorem Gf (hs : s.length = 60) (x : Nat) : (iE s h n p).setIfInBounds 63 (.int .i64 x) = iE s h n x := by
  apply Array.ext'; simp [iE, List.set_append, hs]
end
def abw (I : Hp) (s : List Value) (h : Nat) (E : List (List Int)) : Prop := ∀ i, i < E.length → CV I .i32 (s.getD ((h + i) % 60) undef) (E.getD i [])
def yM (s : List Value) (h : Nat) (E : List (List Int)) : HP := know (fun I => abw I s h E) fun _ _ hl hk i hi => (hk i hi).mono hl
def iG (p : Nat) (E : List (List Int)) (place : Nat) : HP := rV fun (x : List Value × Nat) =>
  fact (x.1.length = 60 ∧ x.2 < 60 ∧ E.length ≤ 60 ∧ (place < E.length ∨ place = 0) ∧ (∀ e ∈ E, e.length ≤ 1024) ∧ ∀ v ∈ x.1, v.oneCell' = true) • dM p (.cells (iE x.1 x.2 E.length place) 207 (0, 0)) • yM x.1 x.2 E
section
variable {w0 w : World} {F : HP} {p place : Nat} {E : List (List Int)}
theorem V.ring (H : V w0 w (iG p E place • F)) : ∃ s h, s.length = 60 ∧ h < 60 ∧ E.length ≤ 60 ∧ (place < E.length ∨ place = 0) ∧ (∀ e ∈ E, e.length ≤ 1024) ∧ (∀ v ∈ s, v.oneCell' = true) ∧ V w0 w (dM p (.cells (iE s h E.length place) 207 (0, 0)) • yM s h E • F) := by
  obtain ⟨⟨s, h⟩, H⟩ := H.lQ
  obtain ⟨⟨h1, h2, h3, h4, h5, h6⟩, H⟩ := H.flat.fact
  exact ⟨s, h, h1, h2, h3, h4, h5, h6, H.flat⟩
theorem V.Fp {s : List Value} {h : Nat} (h1 : s.length = 60) (h2 : h < 60) (h3 : E.length ≤ 60) (h4 : place < E.length ∨ place = 0) (h5 : ∀ e ∈ E, e.length ≤ 1024) (h6 : ∀ v ∈ s, v.oneCell' = true) (H : V w0 w (dM p (.cells (iE s h E.length place) 207 (0, 0)) • yM s h E • F)) : V w0 w (iG p E place • F) :=
  V.iD (s, h) (V.deep (V.kE ⟨h1, h2, h3, h4, h5, h6⟩ H.deep))
theorem KA (H : V w0 w F) : gQ prog 110 #[] w fun v w' => ∃ p, v = .pointer (some ⟨p, 0, none⟩) ∧ V w0 w' (iG p [] 0 • F) := by
  refine OW func110 ntmps110 ?_
  refine jk O (iy (Z (pI (pl := #[(0, 1), (1, 60), (61, 1), (62, 1), (63, 1)]) (iE (List.replicate 60 (.slice none 0 0)) 0 0 0) fO zeroValue207 (fun w => by kernel_rfl) O (by kernel_rfl)) (jy (QE H O) ?_)))
  rintro _ w1 ⟨b1, rfl, H1⟩
  refine fF O (dG results110 O ?_)
  refine ⟨b1, O, V.Fp (s := List.replicate 60 (.slice none 0 0)) (h := 0) (by simp) (by omega) (by simp) (.inr O) (by simp) (by intro v hv; rw [List.eq_of_mem_replicate hv]; rfl) ?_⟩
  exact V.swap (V.uV (fun I i hi => by simp at hi) H1)
theorem tC (t : TypeId) {cs : Array Value} {fr : Nat × Nat} {m : Bool} (hb : w.heap[p]? = some (.cells cs t fr)) (h0 : cs[0]? = some (.bool m)) :
    gQ prog 140 #[.pointer (some ⟨p, 0, none⟩)] w fun v w' => v = .bool (!m) ∧ w = w' := by
  refine iC func140 ntmps140 ?_
  refine jk O (bT O (Z (iT tH O O) (YW O (fun h1 => ?_))))
  (try simp only [aF] at h1)
  refine bC (bQ O (bC (dL O (bC (bF 0 fO O aQ O (bC (gq bM O hb h0 (bC (Z (lS O) (iJ O O (fF O (dG results140 O ?_))))))))))))
  exact ⟨O, O⟩
theorem V.UF {s : List Value} {h i : Nat} (H : V w0 w (yM s h E • F)) (hi : i < E.length) : eX w .i32 (s.getD ((h + i) % 60) undef) (E.getD i []) := let ⟨I, k, hI⟩ := H.qF; (k i hi).rd hI
theorem MB {s : List Value} {h n m : Nat} {t : TypeId} {fr : Nat × Nat} {k : Nat} (hs : s.length = 60) (hh : h < 60) (hk : k < 60) (hb : w.heap[p]? = some (.cells (iE s h n m) t fr)) :
  gQ prog 141 #[.pointer (some ⟨p, 0, none⟩), .int .i64 k] w fun v w' => v = s.getD ((h + k) % 60) undef ∧ zu w w' := by
 refine nH func141 ntmps141 ?_
 refine jk O (aO ?_)
 refine zF (n := 13) [0, 1, 2, 3, 4, 5, 6, 7, 8, 9, 10, 11, 12] (fun W => W.heap = w.heap) (by kernel_rfl) (by kernel_rfl) O ?_
 have hS0 : (fun W => W.heap = w.heap) (w.drew) := rfl
 refine jE 0 O hS0 O (jE 1 O hS0 O (kJ 2 O hS0 O (gU 3 O hS0 61 fO O aj O ?_)))
 refine jQ 4 O hS0 (fun W hW => kC aN O (by rw [hW]; exact hb) (Sm hs)) ?_
 refine jE 5 O hS0 O (jC 6 O hS0 (fun _ => fK O O (by omega)) ?_)
 refine jC 7 O hS0 (fun _ => YQ O O (by omega) (by  omega)) ?_
 refine kJ 8 O hS0 O (gU 9 O hS0 1 fO O sizeOf205 O (jC 10 O hS0 (fun _ => LQ underlying205 dN O O (by omega)) ?_))
 refine jQ 11 O hS0 (fun W hW => kC ay O (by rw [hW]; exact hb) (by rw [show (1 + (((h : Int) + (k : Int)) % 60).toNat * 1) = 1 + (h + k) % 60 from by omega]; exact Sl hs (by omega))) ?_
 refine jC 12 O hS0 (fun _ => dQ O) (qR (aW (mG (dG results141 O ?_))))
 exact ⟨O, ⟨1, O⟩⟩
theorem KC (H : V w0 w (iG p E place • F)) : gQ prog 86 #[.pointer (some ⟨p, 0, none⟩)] w fun v w' => v = .int .i64 E.length ∧ w = w' := by
  obtain ⟨s, h, hs, hh, hE, hp, hm, ho, H1⟩ := H.ring
  have hb := H1.get.2
  refine iC func86 ntmps86 ?_
  refine jk O (aO (bT O (eG O func140 (tC _ hb Kz) ?_)))
  rintro _ _ ⟨rfl, rfl⟩
  refine iK (pW (fV (bT O (dL O (bF 62 fO O aj O (gq aN O hb (su hs) (fF O (dG results86 O ?_))))))))
  exact ⟨O, O⟩
end
end Go.Proofs.YtpdeedplgmbopaaGreatDoor
end
section
namespace Go.Proofs.YtpdeedplgmbopaaGreatDoor
open Go.RowKit
def abx (E : List (List Int)) (place : Nat) (way : Int) (l : List Int) : Int × List (List Int) × Nat :=
  if way < 0 ∨ 2 < way then (1, E, place)
  else if 1024 < l.length then (3, E, place)
  else if way ≠ 0 ∧ 0 < E.length then
    if 1024 < l.length + (E.getD 0 []).length then (3, E, place)
    else (0, (if way = 1 then E.getD 0 [] ++ l else l ++ E.getD 0 []) :: E.tail, 0)
  else if way = 0 ∧ l.length = 0 then (0, E, place)
  else (0, (l :: E).take 60, 0)
section
variable {w0 w : World} {F : HP} {p place : Nat} {E : List (List Int)} {v : Value} {l : List Int} {way : Int}
end
end Go.Proofs.YtpdeedplgmbopaaGreatDoor
end
section
namespace Go.Proofs.YtpdeedplgmbopaaGreatDoor
open Go.RowKit
open _root_.Go.Proofs.Tryz
def D7 (m place : Nat) (n : Int) : Nat := (((place : Int) + n) % (m : Int)).toNat
theorem XK {m place : Nat} {n : Int} (h : 0 < m) : D7 m place n < m := by
  unfold D7
  have h1 := Int.emod_nonneg ((place : Int) + n) (show (m : Int) ≠ 0 by omega)
  have h2 := Int.emod_lt_of_pos ((place : Int) + n) (show (0 : Int) < m by omega)
  omega
theorem KD (a : Int) {m : Int} (h : 0 < m) : -m < a.tmod m ∧ a.tmod m < m := by
  have h2 := Int.tmod_lt_of_pos a h
  have h3 := Int.tmod_lt_of_pos (-a) h
  rw [Int.neg_tmod] at h3
  omega
theorem Jt (a m : Int) : a.tmod m % m = a % m := by
  rw [Int.tmod_def]
  exact Int.sub_mul_emod_self_left a m (a.tdiv m)
theorem ZN (m place : Nat) (n : Int) (h : 0 < m) : (((place : Int) + n.tmod m).tmod m + m).tmod m = (D7 m place n : Int) := by
  have h1 := KD ((place : Int) + n.tmod m) (show (0 : Int) < m by omega)
  have h2 := Int.emod_nonneg ((place : Int) + n) (show (m : Int) ≠ 0 by omega)
  unfold D7
  rw [Int.toNat_of_nonneg h2, Int.tmod_eq_emod_of_nonneg (by omega), Int.add_emod_right, Jt, Int.add_emod, Jt, ← Int.add_emod]
section
variable {w0 w : World} {F : HP} {p place : Nat} {E : List (List Int)} {v : Value} {l : List Int} {way : Int}
theorem D8 {n : Int} (H : V w0 w (iG p [] place • F)) :
    gQ prog 87 #[.pointer (some ⟨p, 0, none⟩), .int .i64 n] w fun v' w' => v' = .tuple #[.slice none 0 0, .int .i64 6] ∧ V w0 w' (iG p [] place • F) := by
  obtain ⟨s, h, hs, hh, hE, hp, hm, ho, H1⟩ := H.ring
  have hb := H1.get.2
  refine nH func87 ntmps87 ?_
  refine iy (fU O (vZ O (aZ (bT O (eG O func140 (tC _ hb Kz) ?_)))))
  rintro _ _ ⟨rfl, rfl⟩
  refine gB O (pW (bT O (dL O (bF 62 fO O aj O (gq aN O hb (su hs) (Z (dO O O) (gB O (wcA O (fun h1 => ?_)))))))))
  (try simp only [aF] at h1)
  refine iy (fU O (fF O (aS (aG (FX results87 O O ?_)))))
  exact ⟨O, H⟩
theorem EX {n : Int} (H : V w0 w (iG p E place • F)) (h0 : 0 < E.length) :
  gQ prog 87 #[.pointer (some ⟨p, 0, none⟩), .int .i64 n] w fun v' w' => ∃ u, v' = .tuple #[u, .int .i64 0] ∧
   V w0 w' (kT 21 .i32 u (E.getD (D7 E.length place n) []) • iG p E (D7 E.length place n) • F) := by
 obtain ⟨s, h, hs, hh, hE, hp, hm, ho, H⟩ := H.ring
 have hb := H.get.2
 have hlt := XK (place := place) (n := n) h0
 have acR := ZN E.length place n h0
 have hb1 := KD n (show (0 : Int) < E.length by omega)
 have hb2 := KD ((place : Int) + n.tmod E.length) (show (0 : Int) < E.length by omega)
 refine nH func87 ntmps87 ?_
 refine iy (fU O (vZ O (aZ (bT O (eG O func140 (tC _ hb Kz) ?_)))))
 rintro _ _ ⟨rfl, rfl⟩
 refine gB O (pW (bT O (dL O (bF 62 fO O aj O (gq aN O hb (su hs) (Z (dO O O) (gB O (wcB O (fun h1 => ?_)))))))))
 (try simp only [aF] at h1)
 refine bU (aJ (aW (aO ?_)))
 refine zF (n := 30) [0, 1, 2, 3, 4, 5, 6, 7, 8, 9, 10, 11, 12, 13, 14, 15, 16, 17, 18, 19, 20, 21, 22, 23, 24, 25, 26, 27, 28, 29] (fun W => W.heap = w.heap) (by kernel_rfl) (by kernel_rfl) O ?_
 have hS0 : (fun W => W.heap = w.heap) (w.drew) := rfl
 have H5d := H.drew
 refine jE 0 O hS0 O (jE 1 O hS0 O (kJ 2 O hS0 O (gU 3 O hS0 63 fO O aj O ?_)))
 refine jQ 4 O hS0 (fun W hW => kC aN O (by rw [hW]; exact hb) (F9 hs)) ?_
 refine jE 5 O hS0 O (jE 6 O hS0 O (kJ 7 O hS0 O (gU 8 O hS0 62 fO O aj O ?_)))
 refine jQ 9 O hS0 (fun W hW => kC aN O (by rw [hW]; exact hb) (su hs)) ?_
 refine jC 10 O hS0 (fun _ => OH O O (by omega)) (jC 11 O hS0 (fun _ => fK O O (by omega)) (jE 12 O hS0 O (kJ 13 O hS0 O (gU 14 O hS0 62 fO O aj O ?_))))
 refine jQ 15 O hS0 (fun W hW => kC aN O (by rw [hW]; exact hb) (su hs)) ?_
 refine jC 16 O hS0 (fun _ => OH O O (by omega)) (jE 17 O hS0 O (kJ 18 O hS0 O (gU 19 O hS0 62 fO O aj O ?_)))
 refine jQ 20 O hS0 (fun W hW => kC aN O (by rw [hW]; exact hb) (su hs)) ?_
 refine jC 21 O hS0 (fun _ => fK O O (by omega)) (jE 22 O hS0 O (kJ 23 O hS0 O (gU 24 O hS0 62 fO O aj O ?_)))
 refine jQ 25 O hS0 (fun W hW => kC aN O (by rw [hW]; exact hb) (su hs)) ?_
 refine jC 26 O hS0 (fun _ => OH O O (by omega)) (kJ 27 O hS0 O (gU 28 O hS0 63 fO O aj O ?_))
 refine fQ 29 O (by kernel_rfl) (Aq H5d aj O O O (by rw [D6 hs]; decide)) ?_
 rintro _ w2 H2
 rw [acR, Gf hs] at H2
 refine aa7 (by kernel_rfl) ?_
 refine qR (aW (bT O (nG O O (bF 63 fO O aj O (gq aN O H2.get.2 (F9 hs) (eG O func141 (MB hs hh (by omega) H2.get.2) ?_))))))
 rintro _ w3 ⟨rfl, hD2⟩
 have H3 := H2.YN hD2
 refine OG (uz (vV O func71 O O) (pK H3 (fun W HW => HW.right.UF (i := D7 E.length place n) hlt) (by have := hm (E.getD (D7 E.length place n) []) (by rw [List.getD_eq_getElem?_getD, List.getElem?_eq_getElem hlt]; simp); omega))) (mg O) ?_
 rintro u w4 H4
 refine fU O (fF O (FX results87 O O ?_))
 exact ⟨u, O, (V.Fp hs hh hE (.inl hlt) hm ho H4.d3).swap⟩
theorem V.Sr {s : List Value} {h : Nat} (H : V w0 w (yM s h E • F)) : V w0 w (yM s h E • yM s h E • F) := H.qV
theorem Sv {s : List Value} {h n p : Nat} (ho : ∀ v ∈ s, v.oneCell' = true) : ∀ v ∈ (iE s h n p).toList, v.oneCell' = true := by
  intro v hv
  simp [iE] at hv
  rcases hv with rfl | hv | rfl | rfl | rfl <;> first | rfl | exact ho v hv
theorem zL (H : V w0 w (iG p E place • F)) :
    gQ prog 85 #[.pointer (some ⟨p, 0, none⟩)] w fun v' w' => ∃ q, v' = .pointer (some ⟨q, 0, none⟩) ∧ V w0 w' (iG q E place • iG p E place • F) := by
  obtain ⟨s, h, hs, hh, hE, hp, hm, ho, H⟩ := H.ring
  have hb := H.get.2
  refine iC func85 ntmps85 ?_
  refine jk O (aO (bT O (eG O func140 (tC _ hb Kz) ?_)))
  rintro _ _ ⟨rfl, rfl⟩
  refine iK (pW (fV (bT O (dL O (Z (fD fO O sizeOf207 (D6 hs) O hb) (jy (Fj H zeroValue207) ?_))))))
  rintro _ w2 ⟨b2, rfl, H2⟩
  refine aK (xE H2 sizeOf207 (D6 hs) O O O (Sv ho)) ?_
  rintro _ w3 H3
  refine iK (jd O (dG results85 O ?_))
  exact ⟨_, O, V.Fp hs hh hE hp hm ho (V.Fp hs hh hE hp hm ho (H3.rot.Sr.r4)).swap.rot⟩
end
section
variable {w0 w : World} {F : HP} {p place : Nat} {E : List (List Int)}
theorem O7 (H : V w0 w (iG p E place • F)) : E.length ≤ 60 ∧ (place < E.length ∨ place = 0) ∧ ∀ e ∈ E, e.length ≤ 1024 := by
  obtain ⟨s, h, hs, hh, hE, hpl, hE2, hs1, H1⟩ := H.ring
  exact ⟨hE, hpl, hE2⟩
theorem EY {n : Int} (H : V w0 w (iG p E place • F)) : gQ prog 87 #[.pointer (some ⟨p, 0, none⟩), .int .i64 n] w fun v w' => ∃ u, v = .tuple #[u, .int .i64 (if E.length = 0 then 6 else 0)] ∧
    V w0 w' (kT 21 .i32 u (if E.length = 0 then [] else E.getD (D7 E.length place n) []) • iG p E (if E.length = 0 then place else D7 E.length place n) • F) := by
  by_cases h0 : E.length = 0
  · obtain rfl := List.eq_nil_of_length_eq_zero h0
    simp only [List.length_nil, if_true]
    exact (D8 H).mono fun v w' h => ⟨_, h.1, h.2.iP none⟩
  · simp only [if_neg h0]
    exact (EX H (by omega)).mono fun v w' h => h
end
end Go.Proofs.YtpdeedplgmbopaaGreatDoor
end
section
namespace Go.Proofs.YtpdeedplgmbopaaGreatDoor
open Go.RowKit
def zf (I : Hp) (k : IntKind) (vs : List Value) (ls : List (List Int)) : Prop := vs.length = ls.length ∧ ∀ j, j < ls.length → CV I k (vs.getD j undef) (ls.getD j [])
def zM (k : IntKind) (vs : List Value) (ls : List (List Int)) : HP := know (fun I => zf I k vs ls) fun _ _ hl h => ⟨h.1, fun j hj => (h.2 j hj).mono hl⟩
def LL (e : TypeId) (k : IntKind) (v : Value) (ls : List (List Int)) : HP := rV fun vs => Row e 1 v ls.length vs • zM k vs ls
theorem tJ {α : Type _} {l m : List α} {j : Nat} {d : α} (h : j < l.length) : (l ++ m).getD j d = l.getD j d := by simp [List.getD_eq_getElem?_getD, List.getElem?_append_left h]
theorem rC {α : Type _} {l m : List α} {j : Nat} {d : α} (h : l.length ≤ j) : (l ++ m).getD j d = m.getD (j - l.length) d := by simp [List.getD_eq_getElem?_getD, List.getElem?_append_right h]
theorem Ju {α : Type _} {l : List α} {i j : Nat} {d : α} : (l.drop i).getD j d = l.getD (i + j) d := by simp [List.getD_eq_getElem?_getD]
theorem D9 {α : Type _} {l : List α} {i j : Nat} {d : α} (h : j < i) : (l.take i).getD j d = l.getD j d := by simp [List.getD_eq_getElem?_getD, List.getElem?_take, h]
theorem vJ {α : Type _} {l : List α} {j : Nat} {d : α} (h : j < l.length) : l.getD j d ∈ l := by rw [List.getD_eq_getElem?_getD, List.getElem?_eq_getElem h]; exact List.getElem_mem h
theorem zf.app {I : Hp} {k : IntKind} {vs us : List Value} {ls ms : List (List Int)} (h : zf I k vs ls) (g : zf I k us ms) : zf I k (vs ++ us) (ls ++ ms) := by
  refine ⟨by simp [h.1, g.1], fun j hj => ?_⟩
  by_cases hl : j < ls.length
  · rw [tJ (by rw [h.1]; exact hl), tJ hl]; exact h.2 j hl
  · have hj' : j - ls.length < ms.length := by simp at hj; omega
    rw [rC (by rw [h.1]; omega), rC (by omega), h.1]; exact g.2 _ hj'
theorem zf.drop {I : Hp} {k : IntKind} {vs : List Value} {ls : List (List Int)} (h : zf I k vs ls) (i : Nat) : zf I k (vs.drop i) (ls.drop i) := by
  refine ⟨by simp [h.1], fun j hj => ?_⟩
  rw [Ju, Ju]
  exact h.2 _ (by simp at hj; omega)
theorem zf.take {I : Hp} {k : IntKind} {vs : List Value} {ls : List (List Int)} (h : zf I k vs ls) (i : Nat) : zf I k (vs.take i) (ls.take i) := by
  refine ⟨by simp [h.1], fun j hj => ?_⟩
  simp at hj
  rw [D9 (by omega), D9 (by omega)]
  exact h.2 _ (by omega)
theorem CV.one {I : Hp} {k : IntKind} {v : Value} {l : List Int} (h : CV I k v l) : zf I k [v] [l] := ⟨rfl, fun j hj => by
  obtain rfl : j = 0 := by simp at hj; omega
  exact h⟩
theorem CV.UG {I : Hp} {k : IntKind} {v : Value} {l : List Int} (h : CV I k v l) : v.oneCell' = true := by obtain ⟨a, c, rfl, _⟩ := h; rfl
section
variable {w0 w : World} {F : HP} {e : TypeId} {k : IntKind} {v : Value} {vs us : List Value} {ls ms : List (List Int)} {l : List Int}
theorem V.XL (H : V w0 w (zM k vs ls • F)) {j : Nat} (hj : j < ls.length) : eX w k (vs.getD j undef) (ls.getD j []) := let ⟨I, h, hI⟩ := H.qF; (h.2 j hj).rd hI
theorem V.UH (H : V w0 w (zM k vs ls • F)) : vs.length = ls.length := let ⟨I, h, hI⟩ := H.qF; h.1
theorem V.MC (H : V w0 w F) : V w0 w (zM k [] [] • F) := H.uV fun I => ⟨rfl, fun j hj => by simp at hj⟩
theorem V.Sz (H : V w0 w (zM k vs ls • mQ k v l • F)) : V w0 w (zM k (vs ++ [v]) (ls ++ [l]) • F) := H.DW (tV (fun I h g => h.app g.one) F)
theorem V.ll (H : V w0 w (LL e k v ls • F)) : ∃ vs, V w0 w (Row e 1 v ls.length vs • zM k vs ls • F) := let ⟨vs, h⟩ := H.lQ; ⟨vs, h.flat⟩
theorem V.Y1 (H : V w0 w (Row e 1 v ls.length vs • zM k vs ls • F)) : V w0 w (LL e k v ls • F) := V.iD vs H.deep
theorem V.UJ {n : Nat} (H : V w0 w (Row e 1 v n vs • zM k vs ls • F)) : V w0 w (LL e k v ls • F) := by
  have h1 := H.wW
  have h2 := H.swap.UH
  obtain rfl : n = ls.length := by omega
  exact H.Y1
theorem Rd.aby {n : Nat} {xs : List Value} (hr : Rd w 1 v n xs) {i : Nat} (h : i ≤ n) : Rd w 1 (wP 1 0 i v) i (xs.take i) := by
  have h1 := hr.cut (Nat.zero_le i) h
  simpa using h1
end
theorem UK {α : Type _} {enc : α → List Value} {sz : Nat} (he : ∀ a, (enc a).length = sz) (l : List α) : (l.flatMap enc).length = l.length * sz := by
  induction l with
  | nil => simp
  | cons a l ih => simp [he, ih, Nat.add_mul, Nat.add_comm]
theorem sD {α : Type _} {enc : α → List Value} {sz : Nat} (he : ∀ a, (enc a).length = sz) {l : List α} {k : Nat} (hk : k < l.length) (d : α) : ((l.flatMap enc).drop (k * sz)).take sz = enc (l.getD k d) := by
  have h1 : l = l.take k ++ l.getD k d :: l.drop (k + 1) := by
    rw [List.getD_eq_getElem?_getD, List.getElem?_eq_getElem hk]
    simp
  have h2 : ((l.take k).flatMap enc).length = k * sz := by rw [UK he, List.length_take, Nat.min_eq_left (by omega)]
  conv => lhs; rw [h1]
  rw [List.flatMap_append, List.drop_append, h2]
  simp [h2, List.take_append, he]
theorem qL {P : Program} {L : List (Nat × Value)} {w : World} {ty : TypeId} {x : Operand} {t : TypeId} {d : TypeDesc} {b o n c sz n' k : Nat} {xs ys : List Value} (hr : Rd w sz (.slice (some ⟨b, o, none⟩) n c) n' xs) (hk : k < n') (hu : P.underlying t = some d) (hd : J9 d = true) (hs : ∀ w, (sizeOf t).run P w = .ok sz w)
    (hx : ev L x = some (.pointer (some ⟨b, o + (k : Int).toNat * sz, none⟩))) (hy : (xs.drop (k * sz)).take sz = ys) (hl : ys.length = sz) : Val P L (.load t x) ty w (.agg ys.toArray) w :=
  yI (by rw [hu]; rfl) (Jr hu hd) hs hl hx (fun j u hj => by
    have hjl : j < sz := by rw [← hl]; exact (List.getElem?_eq_some_iff.1 hj).1
    rw [hr.atS hk hjl, List.getD_eq_getElem?_getD]
    rw [← hy, List.getElem?_take, if_pos hjl, List.getElem?_drop] at hj
    rw [hj]; rfl)
end Go.Proofs.YtpdeedplgmbopaaGreatDoor
end
section
namespace Go.Proofs.YtpdeedplgmbopaaGreatDoor
open Go.RowKit
open _root_.Go.Proofs.Tryz
section
variable {w0 w : World} {F : HP} {v d s z d2 z2 u1 u2 u3 : Value} {L dl il dl2 il2 l1 l2 l3 : List Int} {a a2 : Int}
def acS (L : List Int) (a : Int) (dl : List Int) : Bool := decide (0 ≤ a ∧ a + dl.length ≤ L.length) && ((L.drop a.toNat).take dl.length == dl)
def uE (L : List Int) (a : Int) (dl il : List Int) : Int := if acS L a dl then (if 1024 < (L.length : Int) - dl.length + il.length then 3 else 0) else 1
def uL (L : List Int) (a : Int) (dl il : List Int) : List Int := if uE L a dl il = 0 then L.take a.toNat ++ il ++ L.drop (a.toNat + dl.length) else []
abbrev edV (a : Int) (d z : Value) : Value := .agg #[.int .i64 a, d, z]
theorem uY (H : V w0 w F) (hd : jM w0 F .i32 d dl) (hi : jM w0 F .i32 z il) (b2 : dl.length ≤ 35184372087808) (b3 : il.length ≤ 35184372087808) :
  gQ prog 179 #[edV a d z] w fun v' w' => ∃ d' s', v' = edV a d' s' ∧ V w0 w' (kT 21 .i32 d' dl • kT 21 .i32 s' il • F) := by
 refine iC func179 ntmps179 ?_
 refine iy (jy (iO (l := [_, _, _]) H O O) ?_)
 rintro _ w1 ⟨b1, rfl, H1⟩
 refine jy (fM (l := [_, _, _]) H1 ig O) ?_
 rintro _ w2 ⟨b2, rfl, H2⟩
 refine pJ ?_
 have UL := H2.drew
 have yu := V.kp (UL.f2.f2)
 refine yj [1, 3, 6] yu O (gU 0 O yu 0 dF O aj O (jQ 1 O yu (fun W hW => kC aN O ((Kp.h hW).f2).get.2 O) (gU 2 O yu 1 dF O dN O (jQ 3 O yu (fun W hW => kC ay O ((Kp.h hW).f2).get.2 O) (gU 5 O yu 2 dF O dN O (jQ 6 O yu (fun W hW => kC ay O ((Kp.h hW).f2).get.2 O) (oC 4 O (yJ O func71 (pK UL (fun W HW => hd _ (HW.right.right)) (by omega))) ?_)))))))
 rintro u3 w3 H3
 have yN := V.kp (H3.f3.f3.f3)
 refine dX yN (fun W hW => (Kp.h hW).right.f2.f2) ?_
 refine oC 7 O (yJ O func71 (pK H3 (fun W HW => hi _ (HW.right.right.right)) (by omega))) ?_
 rintro u4 w4 H4
 have xG := V.kp (H4.f4.f4.f4.f4)
 refine dX xG (fun W hW => (Kp.h hW).right.f3.f3.f3) ?_
 obtain ⟨au3, cu3, eu3, -⟩ := eX.open ((H4.f2).aT)
 subst eu3
 obtain ⟨au4, cu4, eu4, -⟩ := eX.open ((H4).aT)
 subst eu4
 refine jC 8 O xG (fun _ => pI (pl := #[(0, 1), (1, 1), (2, 1)]) (#[_, _, _]) dF ig (fun w => by kernel_rfl) O (O)) ?_
 refine fQ 9 O (by kernel_rfl) (bW 0 (l' := [_, _, _]) (us := [_, _, _]) H4.f3 dY O O O (aA (aX (by first | rfl | exact Rd.one ((H4.f2).aT)) (aX (by first | rfl | exact Rd.one ((H4).aT)) bD))) O O) ?_
 rintro _ w7 H7
 have II := V.kp (H7.f4.f4.f4.f4)
 refine gV II (by kernel_rfl) ?_
 refine qR (aW (mG ?_))
 refine pY (.inl O) (J8 results179 O dF O (by rw [UM]; rfl) (H7).get.2) ?_
 exact ⟨_, _, O, H7.right.f3.right.f2⟩
theorem Ea (H : V w0 w F) (hd : jM w0 F .i32 d dl) (hi : jM w0 F .i32 z il) (b2 : dl.length ≤ 35184372087808) (b3 : il.length ≤ 35184372087808) :
  gQ prog 198 #[edV a d z] w fun v' w' => ∃ d' s', v' = edV a d' s' ∧ V w0 w' (kT 21 .i32 d' il • kT 21 .i32 s' dl • F) := by
 refine iC func198 ntmps198 ?_
 refine iy (jy (iO (l := [_, _, _]) H O O) ?_)
 rintro _ w1 ⟨b1, rfl, H1⟩
 refine jy (fM (l := [_, _, _]) H1 ig O) ?_
 rintro _ w2 ⟨b2, rfl, H2⟩
 refine Xj (bF 0 dF O aj O (gq aN O (H2.f2).get.2 O (bF 2 dF O dN O (gq ay O (H2.f2).get.2 O (bF 1 dF O dN O (gq ay O (H2.f2).get.2 O ?_))))))
 obtain ⟨az, cz, ez, -⟩ := eX.open (hi _ (H2.right.right))
 subst ez
 obtain ⟨ad, cd, ed, -⟩ := eX.open (hd _ (H2.right.right))
 subst ed
 refine Z (pI (pl := #[(0, 1), (1, 1), (2, 1)]) (#[_, _, _]) dF ig (fun w => by kernel_rfl) O (O)) (eG O func179 (uY H2 (fun W HW => hi _ (HW.right.right)) (fun W HW => hd _ (HW.right.right)) (by omega) (by omega)) ?_)
 rintro _ w5 ⟨d5, s5, rfl, H5⟩
 refine aK (bW 0 (l' := [_, _, _]) (us := [_, _, _]) H5.f3 dY O O O (aA (aX (by first | rfl | exact Rd.one ((H5).aT)) (aX (by first | rfl | exact Rd.one ((H5.f2).aT)) bD))) O O) ?_
 rintro _ w6 H6
 refine YV ?_
 refine pY (.inl O) (J8 results198 O dF O (by rw [UM]; rfl) (H6).get.2) ?_
 exact ⟨_, _, O, H6.right.f3.right.f2.f2⟩
end
end Go.Proofs.YtpdeedplgmbopaaGreatDoor
end
section
namespace Go.Proofs.YtpdeedplgmbopaaGreatDoor
open Go.RowKit
section
variable {w0 w : World} {F : HP} {v d s z d2 z2 u1 u2 u3 : Value} {L dl il dl2 il2 l1 l2 l3 : List Int} {a a2 : Int}
def jK (a a2 : Int) (dl il dl2 il2 : List Int) : Nat := if dl2.length = 0 ∧ a2 = a + il.length then 1 else if il.length = 0 ∧ il2.length = 0 ∧ a = a2 + dl2.length then 2 else 0
def jA (k : Nat) (a a2 : Int) : Int := if k = 1 then a else if k = 2 then a2 else 0
def jD (k : Nat) (dl dl2 : List Int) : List Int := if k = 1 then dl else if k = 2 then dl2 ++ dl else []
def jI (k : Nat) (il il2 : List Int) : List Int := if k = 1 then il ++ il2 else []
end
structure dV where
  a : Int
  d : Value
  dl : List Int
  i : Value
  il : List Int
instance : Inhabited dV := ⟨⟨0, .slice none 0 0, [], .slice none 0 0, []⟩⟩
def dV.enc (e : dV) : List Value := [.int .i64 e.a, e.d, e.i]
theorem dV.Dc (e : dV) : e.enc.length = 3 := rfl
def dV.Imm (I : Hp) (e : dV) : Prop := CV I .i32 e.d e.dl ∧ CV I .i32 e.i e.il
theorem dV.Imm.mono {I I' : Hp} {e : dV} (hl : Hp.le I I') (h : e.Imm I) : e.Imm I' := ⟨h.1.mono hl, h.2.mono hl⟩
def dV.says (e : dV) : Int × List Int × List Int := (e.a, e.dl, e.il)
def EZ (I : Hp) (es : List dV) : Prop := ∀ k, k < es.length → (es.getD k default).Imm I
theorem EZ.mono {I I' : Hp} {es : List dV} (hl : Hp.le I I') (h : EZ I es) : EZ I' es := fun k hk => (h k hk).mono hl
theorem EZ.app {I : Hp} {es fs : List dV} (h : EZ I es) (g : EZ I fs) : EZ I (es ++ fs) := fun k hk => by
  by_cases hl : k < es.length
  · rw [tJ hl]; exact h k hl
  · rw [rC (by omega)]; exact g _ (by simp at hk; omega)
theorem EZ.one {I : Hp} {e : dV} (h : e.Imm I) : EZ I [e] := fun k hk => by
  obtain rfl : k = 0 := by simp at hk; omega
  exact h
def kK (es : List dV) : HP := know (fun I => EZ I es) fun _ _ hl h => h.mono hl
def edK (e : dV) : HP := know (fun I => e.Imm I) fun _ _ hl h => h.mono hl
def Jv (v : Value) (es : List dV) : HP := Row 189 3 v es.length (es.flatMap dV.enc) • kK es
def AX (I : Hp) (sz : Nat) (v : Value) (n : Nat) (xs : List Value) : Prop := xs.length = n * sz ∧ ∃ a c, v = .slice a n c ∧ n ≤ c ∧ (c : Int) ≤ 9223372036854775807 ∧
  (0 < n → ∃ b o cs e fr, a = some ⟨b, o, none⟩ ∧ I b = some (.cells cs e fr) ∧ ∀ j, j < n * sz → cs[o + j]? = some (xs.getD j undef))
theorem AX.mono {I I' : Hp} {sz n : Nat} {v : Value} {xs : List Value} (hl : Hp.le I I') (h : AX I sz v n xs) : AX I' sz v n xs := by
  obtain ⟨h0, a, c, h1, h2, h3, h4⟩ := h
  exact ⟨h0, a, c, h1, h2, h3, fun hp => let ⟨b, o, cs, e, fr, e1, e2, e3⟩ := h4 hp; ⟨b, o, cs, e, fr, e1, hl _ _ e2, e3⟩⟩
theorem AX.rd {w : World} {m : Nat} {I : Hp} {sz n : Nat} {v : Value} {xs : List Value} (h : AX I sz v n xs) (hI : ∀ k o, I k = some o → m ≤ k ∧ w.heap[k]? = some o) : Rd w sz v n xs := by
  obtain ⟨h0, a, c, h1, h2, h3, h4⟩ := h
  exact ⟨h0, a, c, h1, h2, h3, fun hp => let ⟨b, o, cs, e, fr, e1, e2, e3⟩ := h4 hp; ⟨b, o, e1, fun j hj => ji (hI _ _ e2).2 (e3 j hj)⟩⟩
theorem AX.UG {I : Hp} {sz n : Nat} {v : Value} {xs : List Value} (h : AX I sz v n xs) : v.oneCell' = true := by obtain ⟨_, a, c, rfl, _⟩ := h; rfl
def ElI (I : Hp) (v : Value) (es : List dV) : Prop := AX I 3 v es.length (es.flatMap dV.enc) ∧ EZ I es
theorem ElI.mono {I I' : Hp} {v : Value} {es : List dV} (hl : Hp.le I I') (h : ElI I v es) : ElI I' v es := ⟨h.1.mono hl, h.2.mono hl⟩
def Bf (v : Value) (es : List dV) : HP := know (fun I => ElI I v es) fun _ _ hl h => h.mono hl
def BK (I : Hp) (gs : List (Value × List dV)) : Prop := ∀ k, k < gs.length → ElI I (gs.getD k default).1 (gs.getD k default).2
theorem BK.mono {I I' : Hp} {gs : List (Value × List dV)} (hl : Hp.le I I') (h : BK I gs) : BK I' gs := fun k hk => (h k hk).mono hl
theorem BK.app {I : Hp} {es fs : List (Value × List dV)} (h : BK I es) (g : BK I fs) : BK I (es ++ fs) := fun k hk => by
  by_cases hl : k < es.length
  · rw [tJ hl]; exact h k hl
  · rw [rC (by omega)]; exact g _ (by simp at hk; omega)
theorem BK.one {I : Hp} {v : Value} {es : List dV} (h : ElI I v es) : BK I [(v, es)] := fun k hk => by
  obtain rfl : k = 0 := by simp at hk; omega
  exact h
theorem BK.take {I : Hp} {gs : List (Value × List dV)} (h : BK I gs) (n : Nat) : BK I (gs.take n) := fun k hk => by
  simp at hk
  rw [D9 (by omega)]
  exact h k (by omega)
def nO (gs : List (Value × List dV)) : HP := know (fun I => BK I gs) fun _ _ hl h => h.mono hl
def BL (v : Value) (gs : List (Value × List dV)) : HP := Row 80 1 v gs.length (gs.map (·.1)) • nO gs
section
variable {w0 w : World} {F : HP} {v u : Value} {es fs : List dV} {e : dV} {gs : List (Value × List dV)} {a : Int} {d i : Value} {dl il : List Int}
theorem V.MF (H : V w0 w F) : V w0 w (kK [] • F) := H.uV fun I k hk => by simp at hk
theorem V.Gg (H : V w0 w F) : V w0 w (nO [] • F) := H.uV fun I k hk => by simp at hk
theorem V.rD (H : V w0 w F) (a : Option Addr) : V w0 w (Jv (.slice a 0 0) [] • F) := (H.MF.iP (e := 189) (sz := 3) a).deep
theorem V.Gh (H : V w0 w F) (a : Option Addr) : V w0 w (BL (.slice a 0 0) [] • F) := (H.Gg.iP (e := 80) (sz := 1) a).deep
theorem V.ZO (H : V w0 w (Jv v es • F)) : V w0 w (Row 189 3 v es.length (es.flatMap dV.enc) • kK es • F) := H.flat
theorem V.XM (H : V w0 w (BL v gs • F)) : V w0 w (Row 80 1 v gs.length (gs.map (·.1)) • nO gs • F) := H.flat
theorem V.Df (H : V w0 w (Row 189 3 v (es.length + 1) (es.flatMap dV.enc ++ [.int .i64 a, d, i]) • mQ .i32 d dl • mQ .i32 i il • kK es • F)) : V w0 w (Jv v (es ++ [⟨a, d, dl, i, il⟩]) • F) := by
  have h1 : V w0 w (mQ .i32 d dl • mQ .i32 i il • kK es • Row 189 3 v (es.length + 1) (es.flatMap dV.enc ++ [.int .i64 a, d, i]) • F) := H.of_eq (by ac_rfl)
  have h2 : V w0 w (edK ⟨a, d, dl, i, il⟩ • kK es • Row 189 3 v (es.length + 1) (es.flatMap dV.enc ++ [.int .i64 a, d, i]) • F) := h1.DW (tV (fun I h g => ⟨h, g⟩) _)
  have h3 : V w0 w (kK (es ++ [⟨a, d, dl, i, il⟩]) • Row 189 3 v (es.length + 1) (es.flatMap dV.enc ++ [.int .i64 a, d, i]) • F) := h2.DW (tV (fun I h g => g.app (EZ.one h)) _)
  refine V.deep (h3.swap.of_eq ?_)
  rw [List.length_append, List.flatMap_append]
  simp [dV.enc]
theorem V.oV (H : V w0 w (Jv v es • F)) : V w0 w (Bf v es • F) := by
  have hl := H.ZO.wW
  have H := H.ZO
  rcases H.tN with ⟨a, rfl, h1, h2, H1⟩ | ⟨g, o, c, cur, rfl, h2, h3, h4, h5, H1⟩
  · refine H1.DW (oG (fun I hI => ⟨⟨hl, a, 0, by rw [h1], by omega, by decide, fun h => by omega⟩, hI⟩) F)
  · exact H1.freeze.DW (tV (fun I hI hE => ⟨⟨hl, _, c, rfl, h2, h3, fun _ => ⟨g, o, cur, _, (0, 0), rfl, hI, h5⟩⟩, hE⟩) F)
theorem V.uH (H : V w0 w (Bf v es • F)) : Rd w 3 v es.length (es.flatMap dV.enc) := let ⟨I, h, hI⟩ := H.qF; h.1.rd hI
theorem V.abz (H : V w0 w (Bf v es • F)) {k : Nat} (hk : k < es.length) : eX w .i32 (es.getD k default).d (es.getD k default).dl := let ⟨I, h, hI⟩ := H.qF; (h.2 k hk).1.rd hI
theorem V.abA (H : V w0 w (Bf v es • F)) {k : Nat} (hk : k < es.length) : eX w .i32 (es.getD k default).i (es.getD k default).il := let ⟨I, h, hI⟩ := H.qF; (h.2 k hk).2.rd hI
theorem V.MG (H : V w0 w (nO gs • F)) {k : Nat} (hk : k < gs.length) : V w0 w (Bf (gs.getD k default).1 (gs.getD k default).2 • nO gs • F) := H.qV.DW (oG (fun I h => h k hk) _)
theorem V.MH (H : V w0 w (nO gs • F)) (n : Nat) : V w0 w (nO (gs.take n) • F) := H.DW (oG (fun I h => h.take n) _)
theorem V.qM (H : V w0 w (Row 80 1 v (gs.length + 1) (gs.map (·.1) ++ [u]) • Bf u es • nO gs • F)) : V w0 w (BL v (gs ++ [(u, es)]) • F) := by
  have h1 : V w0 w (Bf u es • nO gs • Row 80 1 v (gs.length + 1) (gs.map (·.1) ++ [u]) • F) := H.of_eq (by ac_rfl)
  have h3 : V w0 w (nO (gs ++ [(u, es)]) • Row 80 1 v (gs.length + 1) (gs.map (·.1) ++ [u]) • F) := h1.DW (tV (fun I h g => g.app (BK.one h)) _)
  refine V.deep (h3.swap.of_eq ?_)
  rw [List.length_append, List.map_append]
  rfl
theorem V.zN (H : V w0 w (kK es • F)) : ∀ x ∈ es.flatMap dV.enc, x.oneCell' = true := by
  obtain ⟨I, h, hI⟩ := H.qF
  intro x hx
  obtain ⟨e, he, hx⟩ := List.mem_flatMap.1 hx
  obtain ⟨k, hk, rfl⟩ := List.getElem_of_mem he
  have := h k hk
  rw [List.getD_eq_getElem?_getD, List.getElem?_eq_getElem hk] at this
  simp [dV.enc] at hx
  rcases hx with rfl | rfl | rfl
  · rfl
  · exact this.1.UG
  · exact this.2.UG
end
end Go.Proofs.YtpdeedplgmbopaaGreatDoor
end
