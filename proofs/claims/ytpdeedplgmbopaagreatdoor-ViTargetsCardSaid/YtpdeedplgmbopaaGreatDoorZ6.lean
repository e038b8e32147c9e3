import Derived.Test.YtpdeedplgmbopaaGreatDoorZ4
import Derived.Test.YtpdeedplgmbopaaGreatDoorZ5
import Derived.Test.YtpdeedplgmbopaaGreatDoorZ3
set_option linter.unusedSimpArgs false
set_option linter.unusedVariables false
/- Texts of mine, joined, their names in short: Buf Buf2 Buf3 LineP Move BLive Same Apply BufP Ring Ring2 Ring3 RingAny LL Flat Undo1 Undo2 Eds. -/
section
namespace Go.Proofs.YtpdeedplgmbopaaGreatDoor
open Go.RowKit
open _root_.Go.Proofs.Tryz
theorem NK {s i j : Nat} {v : Value} (h : v.oneCell' = true) : (xP s i j v).oneCell' = true := by cases v <;> simp_all [xP, Value.oneCell']
def lM (v : Value) (f t pt mk : Int) : Array Value := #[.bool true, v, .int .i64 f, .int .i64 t, .int .i64 pt, .int .i64 mk]
theorem YH {a b : Value} (h : a.oneCell' = true) (k : b.oneCell' = true) : ∀ u ∈ [a, b], u.oneCell' = true := by
  intro u hu; simp at hu; rcases hu with rfl | rfl
  · exact h
  · exact k
section
variable {v u : Value} {f t pt mk x : Int}
theorem He : (lM v f t pt mk).size = 6 := rfl
theorem Lp : (lM v f t pt mk).setIfInBounds 2 (.int .i64 x) = lM v x t pt mk := rfl
theorem Qh : (lM v f t pt mk).setIfInBounds 3 (.int .i64 x) = lM v f x pt mk := rfl
theorem Jt : (lM v f t pt mk).setIfInBounds 4 (.int .i64 x) = lM v f t x mk := rfl
end
def jH (p : Nat) (L : List Int) (pt mk : Int) : HP := uf fun (x : Value × List Int × Nat × Nat) =>
  fact (x.2.2.1 ≤ x.2.2.2 ∧ x.2.2.2 ≤ x.2.1.length ∧ L = x.2.1.take x.2.2.1 ++ x.2.1.drop x.2.2.2 ∧ L.length ≤ 1024 ∧ x.2.1.length ≤ 4096 ∧ (0 ≤ pt ∧ pt ≤ L.length) ∧ (-1 ≤ mk ∧ mk ≤ L.length)) •
    dS p (.cells (lM x.1 x.2.2.1 x.2.2.2 pt mk) 197 (0, 0)) • lD 21 .i32 x.1 x.2.1
section
variable {w0 w : World} {F : HP} {p : Nat} {L : List Int} {pt mk : Int}
theorem V.buf (H : V w0 w (jH p L pt mk • F)) : ∃ (a : Option Addr) (c : Nat) (xs : List Int) (f t : Nat), f ≤ t ∧ t ≤ xs.length ∧ L = xs.take f ++ xs.drop t ∧ L.length ≤ 1024 ∧ xs.length ≤ 4096 ∧ (0 ≤ pt ∧ pt ≤ L.length) ∧ (-1 ≤ mk ∧ mk ≤ L.length) ∧ xs.length ≤ c ∧ (c : Int) ≤ 9223372036854775807 ∧ L.length + t = xs.length + f ∧
    V w0 w (dS p (.cells (lM (.slice a xs.length c) f t pt mk) 197 (0, 0)) • lD 21 .i32 (.slice a xs.length c) xs • F) := by
  obtain ⟨⟨v, xs, f, t⟩, H⟩ := H.lZ
  obtain ⟨⟨h1, h2, h3, h4, h5, h6, h7⟩, H⟩ := H.flat.fact
  have H := H.flat
  obtain ⟨a, c, hv, hc1, hc2, _⟩ := (H.swap.aY).form
  dsimp only at *
  subst hv
  refine ⟨a, c, xs, f, t, h1, h2, h3, h4, h5, h6, h7, hc1, hc2, ?_, H⟩
  rw [h3]; simp; omega
theorem V.Hf {v : Value} {xs : List Int} {f t : Nat} (h1 : f ≤ t) (h2 : t ≤ xs.length) (h3 : L = xs.take f ++ xs.drop t) (h4 : L.length ≤ 1024) (h5 : xs.length ≤ 4096) (h6 : 0 ≤ pt ∧ pt ≤ L.length) (h7 : -1 ≤ mk ∧ mk ≤ L.length)
    (H : V w0 w (dS p (.cells (lM v f t pt mk) 197 (0, 0)) • lD 21 .i32 v xs • F)) : V w0 w (jH p L pt mk • F) :=
  V.iV (v, xs, f, t) (V.deep (V.kR ⟨h1, h2, h3, h4, h5, h6, h7⟩ (V.deep H)))
theorem sZ (t : TypeId) {cs : Array Value} {fr : Nat × Nat} {m : Bool} (hb : w.heap[p]? = some (.cells cs t fr)) (h0 : cs[0]? = some (.bool m)) :
    ig prog 131 #[.pointer (some ⟨p, 0, none⟩)] w fun v w' => v = .bool (!m) ∧ w = w' := by
  refine iK func131 ntmps131 ?_
  refine jy O (bM O (Z (jm rE O O) (ZI O (fun h1 => ?_))))
  (try simp only [aC] at h1)
  refine bg (bG O (bg (dQ O (bg (bK 0 fH O aT O (bg (gJ bW O hb h0 (bg (Z (mD O) (gI O O (dU O (dF results131 O ?_))))))))))))
  exact ⟨O, O⟩
theorem NM (H : V w0 w (jH p L pt mk • F)) : ig prog 132 #[.pointer (some ⟨p, 0, none⟩)] w fun v w' => v = .int .i64 L.length ∧ Ah w w' := by
 obtain ⟨a, c, xs, f, t, h1, h2, h3, h4, h5, h6, h7, hc1, hc2, hl, H1⟩ := H.buf
 have hb := H1.get.2
 refine iK func132 ntmps132 ?_
 refine jy O (aK (bM O (dX O func131 (sZ _ hb O) ?_)))
 rintro _ _ ⟨rfl, rfl⟩
 refine iy (oD (fG (aK ?_)))
 refine Aq (n := 16) [0, 1, 2, 3, 4, 5, 6, 7, 8, 9, 10, 11, 12, 13, 14, 15] (fun W => W.heap = w.heap) (by kernel_rfl) (by kernel_rfl) O ?_
 have hS0 : (fun W => W.heap = w.heap) (w.drew) := rfl
 have H3d := H1.drew
 refine jW 0 O hS0 O (kV 1 O hS0 O (iJ 2 O hS0 1 fH O dV O ?_))
 refine kK 3 O hS0 (fun W hW => kQ aj O (by rw [hW]; exact hb) O) ?_
 refine jQ 4 O hS0 (fun _ => jZ aj O) (jW 5 O hS0 O (kV 6 O hS0 O (iJ 7 O hS0 3 fH O aF O ?_)))
 refine kK 8 O hS0 (fun W hW => kQ aP O (by rw [hW]; exact hb) O) ?_
 refine jW 9 O hS0 O (kV 10 O hS0 O (iJ 11 O hS0 2 fH O aF O ?_))
 refine kK 12 O hS0 (fun W hW => kQ aP O (by rw [hW]; exact hb) O) ?_
 refine jQ 13 O hS0 (fun _ => iG O O (by omega)) (jQ 14 O hS0 (fun _ => iG O O (by omega)) (jQ 15 O hS0 (fun _ => dY O) (sK (aW (mg (dF results132 O ?_))))))
 exact ⟨by congr 1; omega, Ah.refl _ |>.drew⟩
theorem Ju (H : V w0 w (jH p L pt mk • F)) : ig prog 127 #[.pointer (some ⟨p, 0, none⟩)] w fun v w' => v = .int .i64 pt ∧ w = w' := by
  obtain ⟨a, c, xs, f, t, h1, h2, h3, h4, h5, h6, h7, hc1, hc2, hl, H1⟩ := H.buf
  have hb := H1.get.2
  refine iK func127 ntmps127 ?_
  refine jy O (aK (bM O (dX O func131 (sZ _ hb O) ?_)))
  rintro _ _ ⟨rfl, rfl⟩
  refine iy (oD (fG (bM O (dQ O (bK 4 fH O aF O (gJ aP O hb O (dU O (dF results127 O ?_))))))))
  exact ⟨O, O⟩
theorem Lr (H : V w0 w (jH p L pt mk • F)) : ig prog 128 #[.pointer (some ⟨p, 0, none⟩)] w fun v w' => v = .int .i64 mk ∧ w = w' := by
  obtain ⟨a, c, xs, f, t, h1, h2, h3, h4, h5, h6, h7, hc1, hc2, hl, H1⟩ := H.buf
  have hb := H1.get.2
  refine iK func128 ntmps128 ?_
  refine jy O (aK (bM O (dX O func131 (sZ _ hb O) ?_)))
  rintro _ _ ⟨rfl, rfl⟩
  refine iy (oD (fG (bM O (dQ O (bK 5 fH O aF O (gJ aP O hb O (dU O (dF results128 O ?_))))))))
  exact ⟨O, O⟩
theorem Ls (H : V w0 w (jH p L pt mk • F)) : ig prog 126 #[.pointer (some ⟨p, 0, none⟩)] w fun v w' => V w0 w' (lD 21 .i32 v L • jH p L pt mk • F) := by
 obtain ⟨a, c, xs, f, t, h1, h2, h3, h4, h5, h6, h7, hc1, hc2, hl, H1⟩ := H.buf
 have hb := H1.get.2
 refine iK func126 ntmps126 ?_
 refine jy O (aK (bM O (dX O func131 (sZ _ hb O) ?_)))
 rintro _ _ ⟨rfl, rfl⟩
 refine iy (oD (fG (aK ?_)))
 refine Aq (n := 21) [0, 1, 2, 3, 4, 5, 6, 7, 8, 9, 10, 11, 12, 13, 14, 15, 16, 17, 18, 19, 20] (fun W => W.heap[p]? = some (.cells (lM (.slice a xs.length c) f t pt mk) 197 (0, 0))) (by kernel_rfl) (by kernel_rfl) O ?_
 have hS0 : (fun W => W.heap[p]? = some (.cells (lM (.slice a xs.length c) f t pt mk) 197 (0, 0))) (w.drew) := hb
 have H3d := H1.drew
 refine jW 0 O hS0 O (kV 1 O hS0 O (iJ 2 O hS0 1 fH O dV O (kK 3 O hS0 (fun W hW => kQ aj O hW O) (jW 4 O hS0 O (kV 5 O hS0 O (iJ 6 O hS0 2 fH O aF O (kK 7 O hS0 (fun W hW => kQ aP O hW O) (jQ 8 O hS0 (fun _ => DK aj bF O O O (by omega)) ?_))))))))
 refine jW 9 O hS0 O (kV 10 O hS0 O (iJ 11 O hS0 1 fH O dV O (kK 12 O hS0 (fun W hW => kQ aj O hW O) (jW 13 O hS0 O (kV 14 O hS0 O (iJ 15 O hS0 3 fH O aF O (kK 16 O hS0 (fun W hW => kQ aP O hW O) (jQ 17 O hS0 (fun _ => DK aj bF O O O (by omega)) ?_))))))))
 refine oV 18 O (Ko (vs := [xP 1 0 f (.slice a xs.length c), xP 1 t xs.length (.slice a xs.length c)]) H3d jh dV zeroValue22 O O O (by decide) (YH (NK O) (NK O))) ?_
 rintro _ w2 ⟨b2, rfl, H2⟩
 have hS2 : (fun W => W.heap[p]? = some (.cells (lM (.slice a xs.length c) f t pt mk) 197 (0, 0))) w2 := H2.swap.get.2
 refine ZG hS2 ?_
 refine oV 19 O (zx O func172 (NJ (l1 := xs.take f) (l2 := xs.drop t) H2 (fun W HW => dR.upto HW.rot.aY (by omega)) (fun W HW => dR.from HW.rot.aY (by omega)) (by simp; omega))) ?_
 rintro u w3 H3
 have hS3 : (fun W => W.heap[p]? = some (.cells (lM (.slice a xs.length c) f t pt mk) 197 (0, 0))) w3 := H3.rot.get.2
 refine ZG hS3 ?_
 refine jQ 20 O hS3 (fun _ => dY O) (sK (aW (mg (dF results126 O ?_))))
 rw [← h3] at H3
 exact (V.Hf h1 h2 h3 h4 h5 h6 h7 H3.swap.right.d3).swap
theorem NQ {v : Value} {l : List Int} (H : V w0 w F) (hr : jE w0 F .i32 v l) (hl : l.length ≤ 1024) : ig prog 151 #[v] w fun v' w' => ∃ p, v' = .tuple #[.pointer (some ⟨p, 0, none⟩), .int .i64 0] ∧ V w0 w' (jH p l l.length (-1) • F) := by
 obtain ⟨a, c, rfl, _, _, _⟩ := (hr w H).open
 refine iK func151 ntmps151 ?_
 refine gW (dL O (tX O (bM O (Z (jZ aj O) (Z (iw O O) (iy (wcB O (fun h1 => ?_))))))))
 (try simp only [aC] at h1)
 refine fG (bM O (dX O func71 (qP H hr (by omega)) ?_))
 rintro u w1 H1
 obtain ⟨au, cu, hu, _⟩ := (H1.aY).form
 subst hu
 refine bG O (Z (jZ aj O) (Z (qO (pl := #[(0, 1), (1, 1), (2, 1), (3, 1), (4, 1), (5, 1)]) (lM (.slice au l.length cu) 0 0 l.length (-1)) fH zeroValue197 (fun w => by kernel_rfl) O (by kernel_rfl)) (jL (RH H1 O) ?_)))
 rintro _ w2 ⟨b2, rfl, H2⟩
 refine tX O ?_
 have HB : V w0 w2 (dS b2 (.cells (lM (.slice au l.length cu) 0 0 l.length (-1)) 197 (0, 0)) • lD 21 .i32 (.slice au l.length cu) l • F) := H2
 refine aA (jr O O (bG O (Z (jZ aj O) (bG O (Z (jZ aj O) (dQ O (bK 2 fH O aF O (aO (BF HB aF O O O (by rw [He]; decide)) ?_))))))))
 rintro _ w3 HB1
 rw [Lp] at HB1
 refine dQ O (bK 3 fH O aF O (aO (BF HB1 aF O O O (by rw [He]; decide)) ?_))
 rintro _ w4 HB2
 rw [Qh] at HB2
 refine sH O (dL O (dU O (Az results151 O O ?_)))
 exact ⟨_, O, V.Hf (f := l.length) (t := l.length) (Nat.le_refl _) (Nat.le_refl _) (by simp) hl (by omega) (by omega) (by omega) HB2⟩
end
def adz (L : List Int) (i r : Nat) : List Int := RI (RI (List.replicate (L.length + r + 16) 0) 0 (L.take i)) (i + r + 16) (L.drop i)
section
variable {w0 w : World} {F : HP} {p : Nat} {L : List Int} {pt mk : Int}
theorem DV (H : V w0 w (jH p L pt mk • F)) : ig prog 131 #[.pointer (some ⟨p, 0, none⟩)] w fun v w' => v = .bool false ∧ w = w' := by
  obtain ⟨a, c, xs, f, t, h1, h2, h3, h4, h5, h6, h7, hc1, hc2, hl, H1⟩ := H.buf
  exact sZ _ H1.get.2 rfl
def aaA (pt i j n : Int) : Int := if j < pt then pt + (n - (j - i)) else if i ≤ pt then i + n else pt
def aaB (mk i j n : Int) : Int := if j < mk then mk + (n - (j - i)) else if i < mk then i else mk
def adw (at_ : Int) (d i : Value) : Array Value := #[.int .i64 at_, d, i]
variable {v : Value} {l : List Int} {i j : Int}
end
end Go.Proofs.YtpdeedplgmbopaaGreatDoor
end
section
namespace Go.Proofs.YtpdeedplgmbopaaGreatDoor
open Go.RowKit
section
variable {w0 w : World} {F : HP} {p : Nat} {L : List Int} {pt mk : Int} {v : Value} {l : List Int} {i j : Int}
end
end Go.Proofs.YtpdeedplgmbopaaGreatDoor
end
section
namespace Go.Proofs.YtpdeedplgmbopaaGreatDoor
open Go.RowKit
open _root_.Go.Proofs.Tryz
def mvP (n : Nat) (pt x : Int) : Int := if 0 ≤ x ∧ x ≤ n then x else pt
def mvE (n : Nat) (x : Int) : Int := if 0 ≤ x ∧ x ≤ n then 0 else 70
def uq (v : Value) (pt mk : Int) : Array Value := #[v, .int .i64 pt, .int .i64 mk]
theorem TP {v : Value} {pt mk : Int} (h : v.oneCell' = true) : ∀ u ∈ (uq v pt mk).toList, u.oneCell' = true := by
  intro u hu
  simp [uq] at hu
  rcases hu with rfl | rfl | rfl
  · exact h
  · rfl
  · rfl
section
variable {w0 w : World} {F : HP} {p : Nat} {L : List Int} {pt mk x : Int} {v : Value} {l : List Int}
theorem Lu (H : V w0 w (jH p L pt mk • F)) : ig prog 82 #[.pointer (some ⟨p, 0, none⟩), .int .i64 x] w fun v w' => v = .int .i64 (mvE L.length x) ∧ V w0 w' (jH p L (mvP L.length pt x) mk • F) := by
 refine nC func82 ntmps82 ?_
 refine jy O (aK (aV (bM O (dX O func131 (DV H) ?_))))
 rintro _ _ ⟨rfl, rfl⟩
 refine fV O (bI O (fun h1 => ?_) (fun h1 => ?_))
 ·(try simp only [aC] at h1)
  exfalso; first | contradiction | omega
 ·(try simp only [aC] at h1)
  refine bM O (Z (fF O O) (iZ O (fun h2 => ?_) (fun h2 => ?_)))
  ·(try simp only [aC] at h2)
   refine bn (bn (bn (bn (iM O O (fV O (DC (jB O (aN (ay (dF results82 O ?_))))))))))
   exact ⟨by rw [mvE, if_neg (by omega)], by rw [mvP, if_neg (by omega)]; exact H⟩
  ·(try simp only [aC] at h2)
   refine bg (bG O (bg (bG O (bg (dX O func132 (NM H) ?_)))))
   rintro _ w2 ⟨rfl, hD⟩
   have HL := H.Zy hD
   refine bg (Z (iw O O) (gI O O (fV O (bI O (fun h3 => ?_) (fun h3 => ?_)))))
   ·(try simp only [aC] at h3)
    refine jB O (aN (ay (dF results82 O ?_)))
    exact ⟨by rw [mvE, if_neg (by omega)], by rw [mvP, if_neg (by omega)]; exact HL⟩
   ·(try simp only [aC] at h3)
    refine bY (aG (aW (aK ?_)))
    obtain ⟨a, c, xs, f, t, h11, h12, h13, h14, h15, h16, h17, hc1, hc2, hl, HB⟩ := HL.buf
    refine aA (jr O O (dQ O (bK 4 fH O aF O (aO (BF HB aF O O O (by rw [He]; decide)) ?_))))
    rintro _ w3 H3
    rw [Jt] at H3
    refine iy (jB O (dF results82 O ?_))
    exact ⟨by rw [mvE, if_pos (by omega)], by rw [mvP, if_pos (by omega)]; exact V.Hf h11 h12 h13 h14 h15 (by omega) h17 H3⟩
theorem DW (H : V w0 w (jH p L pt mk • F)) : ig prog 79 #[.pointer (some ⟨p, 0, none⟩)] w fun v' w' => ∃ u, v' = .agg (uq u pt mk) ∧ V w0 w' (lD 21 .i32 u L • jH p L pt mk • F) := by
 refine iK func79 ntmps79 ?_
 refine gW (jL (Gl H zeroValue46) ?_)
 rintro _ w1 ⟨b1, rfl, H1⟩
 refine sH O (dX O func126 (Ls H1.swap) ?_)
 rintro u w2 H2
 obtain ⟨au, cu, hu, _⟩ := (H2.aY).form
 subst hu
 refine bG O (dX O func127 (Ju H2.swap) ?_)
 rintro _ _ ⟨rfl, rfl⟩
 refine bG O (dX O func128 (Lr H2.swap) ?_)
 rintro _ _ ⟨rfl, rfl⟩
 refine Z (qO (pl := #[(0, 1), (1, 1), (2, 1)]) (uq (.slice au L.length cu) pt mk) jR zeroValue46 (fun w => by kernel_rfl) O (by kernel_rfl)) (aO (yC (cs := uq (.slice au L.length cu) pt mk) H2.rot sizeOf46 O O O O (TP O)) ?_)
 rintro _ w5 H5
 refine ZH ?_
 refine Yz (.inl O) results79 O jR O (by rw [Vu]; rfl) H5.get.2 ?_
 exact ⟨_, O, H5.right⟩
end
end Go.Proofs.YtpdeedplgmbopaaGreatDoor
end
section
namespace Go.Proofs.YtpdeedplgmbopaaGreatDoor
open Go.RowKit
def Vw (g : Int → Bool) (l : List Int) (at_ : Nat) : Nat := at_ + ((l.drop at_).takeWhile g).length
def Vx (g : Int → Bool) (l : List Int) (at_ : Nat) : Nat := at_ - ((l.take at_).reverse.takeWhile g).length
def DX (n : Nat) (x : Int) : Nat := (min (max x 0) n).toNat
section
variable {w0 w : World} {F G : HP} {v fv : Value} {l : List Int} {g : Int → Bool}
def ab1 (l : List Int) (x : Int) : Nat := Vw dO l (Vw (fun r => !dO r) l (DX l.length x))
def aaC (l : List Int) (x : Int) : Nat := Vx dO l (Vx (fun r => !dO r) l (DX l.length x))
def RP (r : Int) : Bool := decide (qZ r ≠ 0) || fU r
def aeZ (l : List Int) (x : Int) : Nat := if DX l.length x < l.length then Vw (fun r => !RP r) l (DX l.length x + 1) else l.length
def ae0 (l : List Int) (x : Int) : Nat := Vx (fun r => !RP r) l (DX l.length x) - 1
end
section
variable {w0 w : World} {F : HP} {p : Nat} {L : List Int} {pt mk : Int} {v : Value} {l : List Int}
end

section
variable {w0 w : World} {F : HP} {p : Nat} {L : List Int} {pt mk a : Int} {d i : Value} {dl il : List Int}
end
end Go.Proofs.YtpdeedplgmbopaaGreatDoor
end
section
namespace Go.Proofs.YtpdeedplgmbopaaGreatDoor
open Go.RowKit
open _root_.Go.Proofs.Tryz
def FB (L : List Int) (i j : Int) (l : List Int) : Int := if i < 0 ∨ L.length < i ∨ j < i ∨ L.length < j then 70 else if 1024 < L.length - (j - i) + l.length then 3 else 0
def ZJ (L : List Int) (i j : Int) (l : List Int) : List Int := if FB L i j l = 0 then L.take i.toNat ++ l ++ L.drop j.toNat else L
def ZK (L : List Int) (pt i j : Int) (l : List Int) : Int := if FB L i j l = 0 then aaA pt i j l.length else pt
def ZL (L : List Int) (mk i j : Int) (l : List Int) : Int := if FB L i j l = 0 then aaB mk i j l.length else mk
def ab2 (L : List Int) (i j : Int) (l : List Int) : Int := if FB L i j l = 0 then i else 0
def ab3 (L : List Int) (i j : Int) (l : List Int) : List Int := if FB L i j l = 0 then (L.drop i.toNat).take (j - i).toNat else []
def ab4 (L : List Int) (i j : Int) (l : List Int) : List Int := if FB L i j l = 0 then l else []
section
variable {w0 w : World} {F : HP} {p : Nat} {L : List Int} {pt mk : Int} {v d s : Value} {l dl il : List Int} {i j a x : Int}
def smE (L : List Int) (x : Int) : Int := if x < -1 ∨ L.length < x then 70 else 0
def smM (L : List Int) (mk x : Int) : Int := if x < -1 ∨ L.length < x then mk else x
def swE (mk : Int) : Int := if mk < 0 then 6 else 0
def swP (pt mk : Int) : Int := if mk < 0 then pt else mk
def swM (pt mk : Int) : Int := if mk < 0 then mk else pt
theorem Jv (H : V w0 w (jH p L pt mk • F)) : ig prog 129 #[.pointer (some ⟨p, 0, none⟩)] w fun v' w' => ∃ q, v' = .pointer (some ⟨q, 0, none⟩) ∧ V w0 w' (jH q L pt mk • jH p L pt mk • F) := by
 refine iK func129 ntmps129 ?_
 refine jy O (aK (bM O (dX O func131 (DV H) ?_)))
 rintro _ _ ⟨rfl, rfl⟩
 refine iy (oD (fG (aK ?_)))
 obtain ⟨afn, afo, afp, f_p, t_p, ab5, ab6, ab7, ab8, ab9, aca, afq, afr, afs, ae1, acb⟩ := (H).buf
 refine aA (nZ O O (Z (fP fH O sizeOf197 O O (acb).get.2) (jL (gK (l := [_, _, _, _, _, _]) acb zeroValue197 O) ?_)))
 rintro _ w3 ⟨b3, rfl, H3⟩
 refine aO (dw 0 (l' := [_, _, _, _, _, _]) (us := [_, _, _, _, _, _]) H3 sizeOf197 O O O (aH (bf (by first | rfl | exact Rd.one ((H3.f3).aY)) (aH (aH (aH (aH bP)))))) O O) ?_
 rintro _ w4 H4
 refine sH O (dQ O (bK 1 fH O dV O (gJ aj O (H4.f2).get.2 O (dX O func71 (qP H4 (fun W HW => (HW.f3).aY) (by omega)) ?_))))
 rintro u5 w5 H5
 refine bK 1 fH O dV O (aO (fQ 1 (l' := [_, _, _, _, _, _]) H5.f2 dV O O (by first | rfl | exact Rd.one ((H5).aY)) O O) ?_)
 rintro _ w6 H6
 refine iy (jB O (dF results129 O ?_))
 exact ⟨_, O, (V.Hf ab5 ab6 ab7 ab8 ab9 aca (by omega) (V.Hf ab5 ab6 ab7 ab8 ab9 aca (by omega) H6.f4.f4.f4.f4).f2.f3.f2).f2⟩
def acd (L : List Int) (a : Int) (dl : List Int) : Bool := decide ((dl.length : Int) ≤ L.length - a) && ((L.drop a.toNat).take dl.length == dl)
def aaD (L : List Int) (a : Int) (dl il : List Int) : Int := if a < 0 ∨ L.length < a then 70 else if acd L a dl then FB L a (a + dl.length) il else 71
def adA (L : List Int) (a : Int) (dl il : List Int) : List Int := if aaD L a dl il = 0 then ZJ L a (a + dl.length) il else L
def adB (L : List Int) (pt a : Int) (dl il : List Int) : Int := if aaD L a dl il = 0 then ZK L pt a (a + dl.length) il else pt
def adC (L : List Int) (mk a : Int) (dl il : List Int) : Int := if aaD L a dl il = 0 then ZL L mk a (a + dl.length) il else mk
end
def iW (s : List Value) (h n p : Nat) : Array Value := (Value.bool true :: (s ++ [.int .i64 h, .int .i64 n, .int .i64 p])).toArray
section
variable {s : List Value} {h n p : Nat}
theorem EI (hs : s.length = 60) : (iW s h n p).size = 64 := by simp [iW, hs]
theorem LC : (iW s h n p)[0]? = some (.bool true) := by simp [iW]
theorem TQ (hs : s.length = 60) {i : Nat} (hi : i < 60) : (iW s h n p)[1 + i]? = some (s.getD i undef) := by
  simp [iW, Nat.add_comm 1 i, List.getElem?_append_left (show i < s.length by omega), List.getD_eq_getElem?_getD, show i < s.length by omega]
theorem TR (hs : s.length = 60) : (iW s h n p)[61]? = some (.int .i64 h) := by simp [iW, hs]
theorem uw (hs : s.length = 60) : (iW s h n p)[62]? = some (.int .i64 n) := by simp [iW, hs]
theorem Hg (hs : s.length = 60) : (iW s h n p)[63]? = some (.int .i64 p) := by simp [iW, hs]
theorem Hl (hs : s.length = 60) (x : Nat) : (iW s h n p).setIfInBounds 63 (.int .i64 x) = iW s h n x := by
  apply Array.ext'; simp [iW, List.set_append, hs]
end
def ace (I : Hp) (s : List Value) (h : Nat) (E : List (List Int)) : Prop := ∀ i, i < E.length → DR I .i32 (s.getD ((h + i) % 60) undef) (E.getD i [])
def zC (s : List Value) (h : Nat) (E : List (List Int)) : HP := know (fun I => ace I s h E) fun _ _ hl hk i hi => (hk i hi).mono hl
def jc (p : Nat) (E : List (List Int)) (place : Nat) : HP := uf fun (x : List Value × Nat) =>
  fact (x.1.length = 60 ∧ x.2 < 60 ∧ E.length ≤ 60 ∧ (place < E.length ∨ place = 0) ∧ (∀ e ∈ E, e.length ≤ 1024) ∧ ∀ v ∈ x.1, v.oneCell' = true) • dS p (.cells (iW x.1 x.2 E.length place) 207 (0, 0)) • zC x.1 x.2 E
section
variable {w0 w : World} {F : HP} {p place : Nat} {E : List (List Int)}
theorem V.ring (H : V w0 w (jc p E place • F)) : ∃ s h, s.length = 60 ∧ h < 60 ∧ E.length ≤ 60 ∧ (place < E.length ∨ place = 0) ∧ (∀ e ∈ E, e.length ≤ 1024) ∧ (∀ v ∈ s, v.oneCell' = true) ∧ V w0 w (dS p (.cells (iW s h E.length place) 207 (0, 0)) • zC s h E • F) := by
  obtain ⟨⟨s, h⟩, H⟩ := H.lZ
  obtain ⟨⟨h1, h2, h3, h4, h5, h6⟩, H⟩ := H.flat.fact
  exact ⟨s, h, h1, h2, h3, h4, h5, h6, H.flat⟩
theorem V.Gn {s : List Value} {h : Nat} (h1 : s.length = 60) (h2 : h < 60) (h3 : E.length ≤ 60) (h4 : place < E.length ∨ place = 0) (h5 : ∀ e ∈ E, e.length ≤ 1024) (h6 : ∀ v ∈ s, v.oneCell' = true) (H : V w0 w (dS p (.cells (iW s h E.length place) 207 (0, 0)) • zC s h E • F)) : V w0 w (jc p E place • F) :=
  V.iV (s, h) (V.deep (V.kR ⟨h1, h2, h3, h4, h5, h6⟩ H.deep))
theorem LD (H : V w0 w F) : ig prog 110 #[] w fun v w' => ∃ p, v = .pointer (some ⟨p, 0, none⟩) ∧ V w0 w' (jc p [] 0 • F) := by
  refine TK func110 ntmps110 ?_
  refine jy O (gW (Z (qO (pl := #[(0, 1), (1, 60), (61, 1), (62, 1), (63, 1)]) (iW (List.replicate 60 (.slice none 0 0)) 0 0 0) gU zeroValue207 (fun w => by kernel_rfl) O (by kernel_rfl)) (jL (RH H O) ?_)))
  rintro _ w1 ⟨b1, rfl, H1⟩
  refine dU O (dF results110 O ?_)
  refine ⟨b1, O, V.Gn (s := List.replicate 60 (.slice none 0 0)) (h := 0) (by simp) (by omega) (by simp) (.inr O) (by simp) (by intro v hv; rw [List.eq_of_mem_replicate hv]; rfl) ?_⟩
  exact V.swap (V.wI (fun I i hi => by simp at hi) H1)
theorem uV (t : TypeId) {cs : Array Value} {fr : Nat × Nat} {m : Bool} (hb : w.heap[p]? = some (.cells cs t fr)) (h0 : cs[0]? = some (.bool m)) :
    ig prog 140 #[.pointer (some ⟨p, 0, none⟩)] w fun v w' => v = .bool (!m) ∧ w = w' := by
  refine iK func140 ntmps140 ?_
  refine jy O (bM O (Z (jm uX O O) (ZI O (fun h1 => ?_))))
  (try simp only [aC] at h1)
  refine bg (bG O (bg (dQ O (bg (bK 0 gU O aT O (bg (gJ bW O hb h0 (bg (Z (mD O) (gI O O (dU O (dF results140 O ?_))))))))))))
  exact ⟨O, O⟩
theorem V.Vy {s : List Value} {h i : Nat} (H : V w0 w (zC s h E • F)) (hi : i < E.length) : dR w .i32 (s.getD ((h + i) % 60) undef) (E.getD i []) := let ⟨I, k, hI⟩ := H.rJ; (k i hi).rd hI
theorem NR {s : List Value} {h n m : Nat} {t : TypeId} {fr : Nat × Nat} {k : Nat} (hs : s.length = 60) (hh : h < 60) (hk : k < 60) (hb : w.heap[p]? = some (.cells (iW s h n m) t fr)) :
  ig prog 141 #[.pointer (some ⟨p, 0, none⟩), .int .i64 k] w fun v w' => v = s.getD ((h + k) % 60) undef ∧ Ah w w' := by
 refine nC func141 ntmps141 ?_
 refine jy O (aK ?_)
 refine Aq (n := 13) [0, 1, 2, 3, 4, 5, 6, 7, 8, 9, 10, 11, 12] (fun W => W.heap = w.heap) (by kernel_rfl) (by kernel_rfl) O ?_
 have hS0 : (fun W => W.heap = w.heap) (w.drew) := rfl
 refine jW 0 O hS0 O (jW 1 O hS0 O (kV 2 O hS0 O (iJ 3 O hS0 61 gU O aF O ?_)))
 refine kK 4 O hS0 (fun W hW => kQ aP O (by rw [hW]; exact hb) (TR hs)) ?_
 refine jW 5 O hS0 O (jQ 6 O hS0 (fun _ => dP O O (by omega)) ?_)
 refine jQ 7 O hS0 (fun _ => ZC O O (by omega) (by  omega)) ?_
 refine kV 8 O hS0 O (iJ 9 O hS0 1 gU O sizeOf205 O (jQ 10 O hS0 (fun _ => Nu underlying205 dV O O (by omega)) ?_))
 refine kK 11 O hS0 (fun W hW => kQ aj O (by rw [hW]; exact hb) (by rw [show (1 + (((h : Int) + (k : Int)) % 60).toNat * 1) = 1 + (h + k) % 60 from by omega]; exact TQ hs (by omega))) ?_
 refine jQ 12 O hS0 (fun _ => dY O) (sK (aW (mg (dF results141 O ?_))))
 exact ⟨O, ⟨1, O⟩⟩
theorem LG (H : V w0 w (jc p E place • F)) : ig prog 86 #[.pointer (some ⟨p, 0, none⟩)] w fun v w' => v = .int .i64 E.length ∧ w = w' := by
  obtain ⟨s, h, hs, hh, hE, hp, hm, ho, H1⟩ := H.ring
  have hb := H1.get.2
  refine iK func86 ntmps86 ?_
  refine jy O (aK (bM O (dX O func140 (uV _ hb LC) ?_)))
  rintro _ _ ⟨rfl, rfl⟩
  refine iy (oD (fG (bM O (dQ O (bK 62 gU O aF O (gJ aP O hb (uw hs) (dU O (dF results86 O ?_))))))))
  exact ⟨O, O⟩
end
end Go.Proofs.YtpdeedplgmbopaaGreatDoor
end
section
namespace Go.Proofs.YtpdeedplgmbopaaGreatDoor
open Go.RowKit
def acf (E : List (List Int)) (place : Nat) (way : Int) (l : List Int) : Int × List (List Int) × Nat :=
  if way < 0 ∨ 2 < way then (1, E, place)
  else if 1024 < l.length then (3, E, place)
  else if way ≠ 0 ∧ 0 < E.length then
    if 1024 < l.length + (E.getD 0 []).length then (3, E, place)
    else (0, (if way = 1 then E.getD 0 [] ++ l else l ++ E.getD 0 []) :: E.tail, 0)
  else if way = 0 ∧ l.length = 0 then (0, E, place)
  else (0, (l :: E).take 60, 0)
section
variable {w0 w : World} {F : HP} {p place : Nat} {E : List (List Int)} {v : Value} {l : List Int} {way : Int}
end
end Go.Proofs.YtpdeedplgmbopaaGreatDoor
end
section
namespace Go.Proofs.YtpdeedplgmbopaaGreatDoor
open Go.RowKit
open _root_.Go.Proofs.Tryz
def EJ (m place : Nat) (n : Int) : Nat := (((place : Int) + n) % (m : Int)).toNat
theorem YI {m place : Nat} {n : Int} (h : 0 < m) : EJ m place n < m := by
  unfold EJ
  have h1 := Int.emod_nonneg ((place : Int) + n) (show (m : Int) ≠ 0 by omega)
  have h2 := Int.emod_lt_of_pos ((place : Int) + n) (show (0 : Int) < m by omega)
  omega
theorem LH (a : Int) {m : Int} (h : 0 < m) : -m < a.tmod m ∧ a.tmod m < m := by
  have h2 := Int.tmod_lt_of_pos a h
  have h3 := Int.tmod_lt_of_pos (-a) h
  rw [Int.neg_tmod] at h3
  omega
theorem Ku (a m : Int) : a.tmod m % m = a % m := by
  rw [Int.tmod_def]
  exact Int.sub_mul_emod_self_left a m (a.tdiv m)
theorem aaE (m place : Nat) (n : Int) (h : 0 < m) : (((place : Int) + n.tmod m).tmod m + m).tmod m = (EJ m place n : Int) := by
  have h1 := LH ((place : Int) + n.tmod m) (show (0 : Int) < m by omega)
  have h2 := Int.emod_nonneg ((place : Int) + n) (show (m : Int) ≠ 0 by omega)
  unfold EJ
  rw [Int.toNat_of_nonneg h2, Int.tmod_eq_emod_of_nonneg (by omega), Int.add_emod_right, Ku, Int.add_emod, Ku, ← Int.add_emod]
section
variable {w0 w : World} {F : HP} {p place : Nat} {E : List (List Int)} {v : Value} {l : List Int} {way : Int}
theorem EK {n : Int} (H : V w0 w (jc p [] place • F)) :
    ig prog 87 #[.pointer (some ⟨p, 0, none⟩), .int .i64 n] w fun v' w' => v' = .tuple #[.slice none 0 0, .int .i64 6] ∧ V w0 w' (jc p [] place • F) := by
  obtain ⟨s, h, hs, hh, hE, hp, hm, ho, H1⟩ := H.ring
  have hb := H1.get.2
  refine nC func87 ntmps87 ?_
  refine gW (dL O (tX O (aV (bM O (dX O func140 (uV _ hb LC) ?_)))))
  rintro _ _ ⟨rfl, rfl⟩
  refine fV O (oD (bM O (dQ O (bK 62 gU O aF O (gJ aP O hb (uw hs) (Z (cZ O O) (fV O (wcA O (fun h1 => ?_)))))))))
  (try simp only [aC] at h1)
  refine gW (dL O (dU O (aN (ay (Az results87 O O ?_)))))
  exact ⟨O, H⟩
theorem FX {n : Int} (H : V w0 w (jc p E place • F)) (h0 : 0 < E.length) :
  ig prog 87 #[.pointer (some ⟨p, 0, none⟩), .int .i64 n] w fun v' w' => ∃ u, v' = .tuple #[u, .int .i64 0] ∧
   V w0 w' (lD 21 .i32 u (E.getD (EJ E.length place n) []) • jc p E (EJ E.length place n) • F) := by
 obtain ⟨s, h, hs, hh, hE, hp, hm, ho, H⟩ := H.ring
 have hb := H.get.2
 have hlt := YI (place := place) (n := n) h0
 have adD := aaE E.length place n h0
 have hb1 := LH n (show (0 : Int) < E.length by omega)
 have hb2 := LH ((place : Int) + n.tmod E.length) (show (0 : Int) < E.length by omega)
 refine nC func87 ntmps87 ?_
 refine gW (dL O (tX O (aV (bM O (dX O func140 (uV _ hb LC) ?_)))))
 rintro _ _ ⟨rfl, rfl⟩
 refine fV O (oD (bM O (dQ O (bK 62 gU O aF O (gJ aP O hb (uw hs) (Z (cZ O O) (fV O (wcB O (fun h1 => ?_)))))))))
 (try simp only [aC] at h1)
 refine bY (aG (aW (aK ?_)))
 refine Aq (n := 30) [0, 1, 2, 3, 4, 5, 6, 7, 8, 9, 10, 11, 12, 13, 14, 15, 16, 17, 18, 19, 20, 21, 22, 23, 24, 25, 26, 27, 28, 29] (fun W => W.heap = w.heap) (by kernel_rfl) (by kernel_rfl) O ?_
 have hS0 : (fun W => W.heap = w.heap) (w.drew) := rfl
 have H5d := H.drew
 refine jW 0 O hS0 O (jW 1 O hS0 O (kV 2 O hS0 O (iJ 3 O hS0 63 gU O aF O ?_)))
 refine kK 4 O hS0 (fun W hW => kQ aP O (by rw [hW]; exact hb) (Hg hs)) ?_
 refine jW 5 O hS0 O (jW 6 O hS0 O (kV 7 O hS0 O (iJ 8 O hS0 62 gU O aF O ?_)))
 refine kK 9 O hS0 (fun W hW => kQ aP O (by rw [hW]; exact hb) (uw hs)) ?_
 refine jQ 10 O hS0 (fun _ => PX O O (by omega)) (jQ 11 O hS0 (fun _ => dP O O (by omega)) (jW 12 O hS0 O (kV 13 O hS0 O (iJ 14 O hS0 62 gU O aF O ?_))))
 refine kK 15 O hS0 (fun W hW => kQ aP O (by rw [hW]; exact hb) (uw hs)) ?_
 refine jQ 16 O hS0 (fun _ => PX O O (by omega)) (jW 17 O hS0 O (kV 18 O hS0 O (iJ 19 O hS0 62 gU O aF O ?_)))
 refine kK 20 O hS0 (fun W hW => kQ aP O (by rw [hW]; exact hb) (uw hs)) ?_
 refine jQ 21 O hS0 (fun _ => dP O O (by omega)) (jW 22 O hS0 O (kV 23 O hS0 O (iJ 24 O hS0 62 gU O aF O ?_)))
 refine kK 25 O hS0 (fun W hW => kQ aP O (by rw [hW]; exact hb) (uw hs)) ?_
 refine jQ 26 O hS0 (fun _ => PX O O (by omega)) (kV 27 O hS0 O (iJ 28 O hS0 63 gU O aF O ?_))
 refine gX 29 O (by kernel_rfl) (BF H5d aF O O O (by rw [EI hs]; decide)) ?_
 rintro _ w2 H2
 rw [adD, Hl hs] at H2
 refine abS (by kernel_rfl) ?_
 refine sK (aW (bM O (nZ O O (bK 63 gU O aF O (gJ aP O H2.get.2 (Hg hs) (dX O func141 (NR hs hh (by omega) H2.get.2) ?_))))))
 rintro _ w3 ⟨rfl, hD2⟩
 have H3 := H2.Zy hD2
 refine PW (sQ (um O func71 O O) (qP H3 (fun W HW => HW.right.Vy (i := EJ E.length place n) hlt) (by have := hm (E.getD (EJ E.length place n) []) (by rw [List.getD_eq_getElem?_getD, List.getElem?_eq_getElem hlt]; simp); omega))) (kM O) ?_
 rintro u w4 H4
 refine dL O (dU O (Az results87 O O ?_))
 exact ⟨u, O, (V.Gn hs hh hE (.inl hlt) hm ho H4.d3).swap⟩
theorem V.TS {s : List Value} {h : Nat} (H : V w0 w (zC s h E • F)) : V w0 w (zC s h E • zC s h E • F) := H.sO
theorem TT {s : List Value} {h n p : Nat} (ho : ∀ v ∈ s, v.oneCell' = true) : ∀ v ∈ (iW s h n p).toList, v.oneCell' = true := by
  intro v hv
  simp [iW] at hv
  rcases hv with rfl | hv | rfl | rfl | rfl <;> first | rfl | exact ho v hv
theorem AA (H : V w0 w (jc p E place • F)) :
    ig prog 85 #[.pointer (some ⟨p, 0, none⟩)] w fun v' w' => ∃ q, v' = .pointer (some ⟨q, 0, none⟩) ∧ V w0 w' (jc q E place • jc p E place • F) := by
  obtain ⟨s, h, hs, hh, hE, hp, hm, ho, H⟩ := H.ring
  have hb := H.get.2
  refine iK func85 ntmps85 ?_
  refine jy O (aK (bM O (dX O func140 (uV _ hb LC) ?_)))
  rintro _ _ ⟨rfl, rfl⟩
  refine iy (oD (fG (bM O (dQ O (Z (fP gU O sizeOf207 (EI hs) O hb) (jL (Gl H zeroValue207) ?_))))))
  rintro _ w2 ⟨b2, rfl, H2⟩
  refine aO (yC H2 sizeOf207 (EI hs) O O O (TT ho)) ?_
  rintro _ w3 H3
  refine iy (jB O (dF results85 O ?_))
  exact ⟨_, O, V.Gn hs hh hE hp hm ho (V.Gn hs hh hE hp hm ho (H3.rot.TS.r4)).swap.rot⟩
end
section
variable {w0 w : World} {F : HP} {p place : Nat} {E : List (List Int)}
theorem Qi (H : V w0 w (jc p E place • F)) : E.length ≤ 60 ∧ (place < E.length ∨ place = 0) ∧ ∀ e ∈ E, e.length ≤ 1024 := by
  obtain ⟨s, h, hs, hh, hE, hpl, hE2, hs1, H1⟩ := H.ring
  exact ⟨hE, hpl, hE2⟩
theorem FY {n : Int} (H : V w0 w (jc p E place • F)) : ig prog 87 #[.pointer (some ⟨p, 0, none⟩), .int .i64 n] w fun v w' => ∃ u, v = .tuple #[u, .int .i64 (if E.length = 0 then 6 else 0)] ∧
    V w0 w' (lD 21 .i32 u (if E.length = 0 then [] else E.getD (EJ E.length place n) []) • jc p E (if E.length = 0 then place else EJ E.length place n) • F) := by
  by_cases h0 : E.length = 0
  · obtain rfl := List.eq_nil_of_length_eq_zero h0
    simp only [List.length_nil, if_true]
    exact (EK H).mono fun v w' h => ⟨_, h.1, h.2.jk none⟩
  · simp only [if_neg h0]
    exact (FX H (by omega)).mono fun v w' h => h
end
end Go.Proofs.YtpdeedplgmbopaaGreatDoor
end
section
namespace Go.Proofs.YtpdeedplgmbopaaGreatDoor
open Go.RowKit
def Aa (I : Hp) (k : IntKind) (vs : List Value) (ls : List (List Int)) : Prop := vs.length = ls.length ∧ ∀ j, j < ls.length → DR I k (vs.getD j undef) (ls.getD j [])
def AB (k : IntKind) (vs : List Value) (ls : List (List Int)) : HP := know (fun I => Aa I k vs ls) fun _ _ hl h => ⟨h.1, fun j hj => (h.2 j hj).mono hl⟩
def LL (e : TypeId) (k : IntKind) (v : Value) (ls : List (List Int)) : HP := uf fun vs => Row e 1 v ls.length vs • AB k vs ls
theorem uY {α : Type _} {l m : List α} {j : Nat} {d : α} (h : j < l.length) : (l ++ m).getD j d = l.getD j d := by simp [List.getD_eq_getElem?_getD, List.getElem?_append_left h]
theorem tq {α : Type _} {l m : List α} {j : Nat} {d : α} (h : l.length ≤ j) : (l ++ m).getD j d = m.getD (j - l.length) d := by simp [List.getD_eq_getElem?_getD, List.getElem?_append_right h]
theorem Kv {α : Type _} {l : List α} {i j : Nat} {d : α} : (l.drop i).getD j d = l.getD (i + j) d := by simp [List.getD_eq_getElem?_getD]
theorem EL {α : Type _} {l : List α} {i j : Nat} {d : α} (h : j < i) : (l.take i).getD j d = l.getD j d := by simp [List.getD_eq_getElem?_getD, List.getElem?_take, h]
theorem wR {α : Type _} {l : List α} {j : Nat} {d : α} (h : j < l.length) : l.getD j d ∈ l := by rw [List.getD_eq_getElem?_getD, List.getElem?_eq_getElem h]; exact List.getElem_mem h
theorem Aa.app {I : Hp} {k : IntKind} {vs us : List Value} {ls ms : List (List Int)} (h : Aa I k vs ls) (g : Aa I k us ms) : Aa I k (vs ++ us) (ls ++ ms) := by
  refine ⟨by simp [h.1, g.1], fun j hj => ?_⟩
  by_cases hl : j < ls.length
  · rw [uY (by rw [h.1]; exact hl), uY hl]; exact h.2 j hl
  · have hj' : j - ls.length < ms.length := by simp at hj; omega
    rw [tq (by rw [h.1]; omega), tq (by omega), h.1]; exact g.2 _ hj'
theorem Aa.drop {I : Hp} {k : IntKind} {vs : List Value} {ls : List (List Int)} (h : Aa I k vs ls) (i : Nat) : Aa I k (vs.drop i) (ls.drop i) := by
  refine ⟨by simp [h.1], fun j hj => ?_⟩
  rw [Kv, Kv]
  exact h.2 _ (by simp at hj; omega)
theorem Aa.take {I : Hp} {k : IntKind} {vs : List Value} {ls : List (List Int)} (h : Aa I k vs ls) (i : Nat) : Aa I k (vs.take i) (ls.take i) := by
  refine ⟨by simp [h.1], fun j hj => ?_⟩
  simp at hj
  rw [EL (by omega), EL (by omega)]
  exact h.2 _ (by omega)
theorem DR.one {I : Hp} {k : IntKind} {v : Value} {l : List Int} (h : DR I k v l) : Aa I k [v] [l] := ⟨rfl, fun j hj => by
  obtain rfl : j = 0 := by simp at hj; omega
  exact h⟩
theorem DR.Vz {I : Hp} {k : IntKind} {v : Value} {l : List Int} (h : DR I k v l) : v.oneCell' = true := by obtain ⟨a, c, rfl, _⟩ := h; rfl
section
variable {w0 w : World} {F : HP} {e : TypeId} {k : IntKind} {v : Value} {vs us : List Value} {ls ms : List (List Int)} {l : List Int}
theorem V.YJ (H : V w0 w (AB k vs ls • F)) {j : Nat} (hj : j < ls.length) : dR w k (vs.getD j undef) (ls.getD j []) := let ⟨I, h, hI⟩ := H.rJ; (h.2 j hj).rd hI
theorem V.VA (H : V w0 w (AB k vs ls • F)) : vs.length = ls.length := let ⟨I, h, hI⟩ := H.rJ; h.1
theorem V.NS (H : V w0 w F) : V w0 w (AB k [] [] • F) := H.wI fun I => ⟨rfl, fun j hj => by simp at hj⟩
theorem V.TU (H : V w0 w (AB k vs ls • nD k v l • F)) : V w0 w (AB k (vs ++ [v]) (ls ++ [l]) • F) := H.EF (vG (fun I h g => h.app g.one) F)
theorem V.ll (H : V w0 w (LL e k v ls • F)) : ∃ vs, V w0 w (Row e 1 v ls.length vs • AB k vs ls • F) := let ⟨vs, h⟩ := H.lZ; ⟨vs, h.flat⟩
theorem V.ZM (H : V w0 w (Row e 1 v ls.length vs • AB k vs ls • F)) : V w0 w (LL e k v ls • F) := V.iV vs H.deep
theorem V.VB {n : Nat} (H : V w0 w (Row e 1 v n vs • AB k vs ls • F)) : V w0 w (LL e k v ls • F) := by
  have h1 := H.xZ
  have h2 := H.swap.VA
  obtain rfl : n = ls.length := by omega
  exact H.ZM
theorem Rd.acg {n : Nat} {xs : List Value} (hr : Rd w 1 v n xs) {i : Nat} (h : i ≤ n) : Rd w 1 (xP 1 0 i v) i (xs.take i) := by
  have h1 := hr.cut (Nat.zero_le i) h
  simpa using h1
end
theorem VD {α : Type _} {enc : α → List Value} {sz : Nat} (he : ∀ a, (enc a).length = sz) (l : List α) : (l.flatMap enc).length = l.length * sz := by
  induction l with
  | nil => simp
  | cons a l ih => simp [he, ih, Nat.add_mul, Nat.add_comm]
theorem uy {α : Type _} {enc : α → List Value} {sz : Nat} (he : ∀ a, (enc a).length = sz) {l : List α} {k : Nat} (hk : k < l.length) (d : α) : ((l.flatMap enc).drop (k * sz)).take sz = enc (l.getD k d) := by
  have h1 : l = l.take k ++ l.getD k d :: l.drop (k + 1) := by
    rw [List.getD_eq_getElem?_getD, List.getElem?_eq_getElem hk]
    simp
  have h2 : ((l.take k).flatMap enc).length = k * sz := by rw [VD he, List.length_take, Nat.min_eq_left (by omega)]
  conv => lhs; rw [h1]
  rw [List.flatMap_append, List.drop_append, h2]
  simp [h2, List.take_append, he]
theorem rX {P : Program} {L : List (Nat × Value)} {w : World} {ty : TypeId} {x : Operand} {t : TypeId} {d : TypeDesc} {b o n c sz n' k : Nat} {xs ys : List Value} (hr : Rd w sz (.slice (some ⟨b, o, none⟩) n c) n' xs) (hk : k < n') (hu : P.underlying t = some d) (hd : Lj d = true) (hs : ∀ w, (sizeOf t).run P w = .ok sz w)
    (hx : ev L x = some (.pointer (some ⟨b, o + (k : Int).toNat * sz, none⟩))) (hy : (xs.drop (k * sz)).take sz = ys) (hl : ys.length = sz) : Val P L (.load t x) ty w (.agg ys.toArray) w :=
  zy (by rw [hu]; rfl) (Kr hu hd) hs hl hx (fun j u hj => by
    have hjl : j < sz := by rw [← hl]; exact (List.getElem?_eq_some_iff.1 hj).1
    rw [hr.atS hk hjl, List.getD_eq_getElem?_getD]
    rw [← hy, List.getElem?_take, if_pos hjl, List.getElem?_drop] at hj
    rw [hj]; rfl)
end Go.Proofs.YtpdeedplgmbopaaGreatDoor
end
section
namespace Go.Proofs.YtpdeedplgmbopaaGreatDoor
open Go.RowKit
open _root_.Go.Proofs.Tryz
section
variable {w0 w : World} {F : HP} {v d s z d2 z2 u1 u2 u3 : Value} {L dl il dl2 il2 l1 l2 l3 : List Int} {a a2 : Int}
def adE (L : List Int) (a : Int) (dl : List Int) : Bool := decide (0 ≤ a ∧ a + dl.length ≤ L.length) && ((L.drop a.toNat).take dl.length == dl)
def uE (L : List Int) (a : Int) (dl il : List Int) : Int := if adE L a dl then (if 1024 < (L.length : Int) - dl.length + il.length then 3 else 0) else 1
def uL (L : List Int) (a : Int) (dl il : List Int) : List Int := if uE L a dl il = 0 then L.take a.toNat ++ il ++ L.drop (a.toNat + dl.length) else []
abbrev edV (a : Int) (d z : Value) : Value := .agg #[.int .i64 a, d, z]
theorem wJ (H : V w0 w F) (hd : jE w0 F .i32 d dl) (hi : jE w0 F .i32 z il) (b2 : dl.length ≤ 35184372087808) (b3 : il.length ≤ 35184372087808) :
  ig prog 179 #[edV a d z] w fun v' w' => ∃ d' s', v' = edV a d' s' ∧ V w0 w' (lD 21 .i32 d' dl • lD 21 .i32 s' il • F) := by
 refine iK func179 ntmps179 ?_
 refine gW (jL (jf (l := [_, _, _]) H O O) ?_)
 rintro _ w1 ⟨b1, rfl, H1⟩
 refine jL (gK (l := [_, _, _]) H1 iO O) ?_
 rintro _ w2 ⟨b2, rfl, H2⟩
 refine qW ?_
 have VE := H2.drew
 have y7 := V.kp (VE.f2.f2)
 refine yY [1, 3, 6] y7 O (iJ 0 O y7 0 dK O aF O (kK 1 O y7 (fun W hW => kQ aP O ((Kp.h hW).f2).get.2 O) (iJ 2 O y7 1 dK O dV O (kK 3 O y7 (fun W hW => kQ aj O ((Kp.h hW).f2).get.2 O) (iJ 5 O y7 2 dK O dV O (kK 6 O y7 (fun W hW => kQ aj O ((Kp.h hW).f2).get.2 O) (oV 4 O (zx O func71 (qP VE (fun W HW => hd _ (HW.right.right)) (by omega))) ?_)))))))
 rintro u3 w3 H3
 have zD := V.kp (H3.f3.f3.f3)
 refine eU zD (fun W hW => (Kp.h hW).right.f2.f2) ?_
 refine oV 7 O (zx O func71 (qP H3 (fun W HW => hi _ (HW.right.right.right)) (by omega))) ?_
 rintro u4 w4 H4
 have nK := V.kp (H4.f4.f4.f4.f4)
 refine eU nK (fun W hW => (Kp.h hW).right.f3.f3.f3) ?_
 obtain ⟨au3, cu3, eu3, -⟩ := dR.open ((H4.f2).aY)
 subst eu3
 obtain ⟨au4, cu4, eu4, -⟩ := dR.open ((H4).aY)
 subst eu4
 refine jQ 8 O nK (fun _ => qO (pl := #[(0, 1), (1, 1), (2, 1)]) (#[_, _, _]) dK iO (fun w => by kernel_rfl) O (O)) ?_
 refine gX 9 O (by kernel_rfl) (dw 0 (l' := [_, _, _]) (us := [_, _, _]) H4.f3 fA O O O (aH (bf (by first | rfl | exact Rd.one ((H4.f2).aY)) (bf (by first | rfl | exact Rd.one ((H4).aY)) bP))) O O) ?_
 rintro _ w7 H7
 have Jw := V.kp (H7.f4.f4.f4.f4)
 refine iD Jw (by kernel_rfl) ?_
 refine sK (aW (mg ?_))
 refine qY (.inl O) (Lh results179 O dK O (by rw [VF]; rfl) (H7).get.2) ?_
 exact ⟨_, _, O, H7.right.f3.right.f2⟩
theorem EM (H : V w0 w F) (hd : jE w0 F .i32 d dl) (hi : jE w0 F .i32 z il) (b2 : dl.length ≤ 35184372087808) (b3 : il.length ≤ 35184372087808) :
  ig prog 198 #[edV a d z] w fun v' w' => ∃ d' s', v' = edV a d' s' ∧ V w0 w' (lD 21 .i32 d' il • lD 21 .i32 s' dl • F) := by
 refine iK func198 ntmps198 ?_
 refine gW (jL (jf (l := [_, _, _]) H O O) ?_)
 rintro _ w1 ⟨b1, rfl, H1⟩
 refine jL (gK (l := [_, _, _]) H1 iO O) ?_
 rintro _ w2 ⟨b2, rfl, H2⟩
 refine Yh (bK 0 dK O aF O (gJ aP O (H2.f2).get.2 O (bK 2 dK O dV O (gJ aj O (H2.f2).get.2 O (bK 1 dK O dV O (gJ aj O (H2.f2).get.2 O ?_))))))
 obtain ⟨az, cz, ez, -⟩ := dR.open (hi _ (H2.right.right))
 subst ez
 obtain ⟨ad, cd, ed, -⟩ := dR.open (hd _ (H2.right.right))
 subst ed
 refine Z (qO (pl := #[(0, 1), (1, 1), (2, 1)]) (#[_, _, _]) dK iO (fun w => by kernel_rfl) O (O)) (dX O func179 (wJ H2 (fun W HW => hi _ (HW.right.right)) (fun W HW => hd _ (HW.right.right)) (by omega) (by omega)) ?_)
 rintro _ w5 ⟨d5, s5, rfl, H5⟩
 refine aO (dw 0 (l' := [_, _, _]) (us := [_, _, _]) H5.f3 fA O O O (aH (bf (by first | rfl | exact Rd.one ((H5).aY)) (bf (by first | rfl | exact Rd.one ((H5.f2).aY)) bP))) O O) ?_
 rintro _ w6 H6
 refine ZH ?_
 refine qY (.inl O) (Lh results198 O dK O (by rw [VF]; rfl) (H6).get.2) ?_
 exact ⟨_, _, O, H6.right.f3.right.f2.f2⟩
end
end Go.Proofs.YtpdeedplgmbopaaGreatDoor
end
section
namespace Go.Proofs.YtpdeedplgmbopaaGreatDoor
open Go.RowKit
section
variable {w0 w : World} {F : HP} {v d s z d2 z2 u1 u2 u3 : Value} {L dl il dl2 il2 l1 l2 l3 : List Int} {a a2 : Int}
def jK (a a2 : Int) (dl il dl2 il2 : List Int) : Nat := if dl2.length = 0 ∧ a2 = a + il.length then 1 else if il.length = 0 ∧ il2.length = 0 ∧ a = a2 + dl2.length then 2 else 0
def jA (k : Nat) (a a2 : Int) : Int := if k = 1 then a else if k = 2 then a2 else 0
def jD (k : Nat) (dl dl2 : List Int) : List Int := if k = 1 then dl else if k = 2 then dl2 ++ dl else []
def jI (k : Nat) (il il2 : List Int) : List Int := if k = 1 then il ++ il2 else []
end
structure eG where
  a : Int
  d : Value
  dl : List Int
  i : Value
  il : List Int
instance : Inhabited eG := ⟨⟨0, .slice none 0 0, [], .slice none 0 0, []⟩⟩
def eG.enc (e : eG) : List Value := [.int .i64 e.a, e.d, e.i]
theorem eG.DY (e : eG) : e.enc.length = 3 := rfl
def eG.Imm (I : Hp) (e : eG) : Prop := DR I .i32 e.d e.dl ∧ DR I .i32 e.i e.il
theorem eG.Imm.mono {I I' : Hp} {e : eG} (hl : Hp.le I I') (h : e.Imm I) : e.Imm I' := ⟨h.1.mono hl, h.2.mono hl⟩
def eG.says (e : eG) : Int × List Int × List Int := (e.a, e.dl, e.il)
def FZ (I : Hp) (es : List eG) : Prop := ∀ k, k < es.length → (es.getD k default).Imm I
theorem FZ.mono {I I' : Hp} {es : List eG} (hl : Hp.le I I') (h : FZ I es) : FZ I' es := fun k hk => (h k hk).mono hl
theorem FZ.app {I : Hp} {es fs : List eG} (h : FZ I es) (g : FZ I fs) : FZ I (es ++ fs) := fun k hk => by
  by_cases hl : k < es.length
  · rw [uY hl]; exact h k hl
  · rw [tq (by omega)]; exact g _ (by simp at hk; omega)
theorem FZ.one {I : Hp} {e : eG} (h : e.Imm I) : FZ I [e] := fun k hk => by
  obtain rfl : k = 0 := by simp at hk; omega
  exact h
def kW (es : List eG) : HP := know (fun I => FZ I es) fun _ _ hl h => h.mono hl
def edK (e : eG) : HP := know (fun I => e.Imm I) fun _ _ hl h => h.mono hl
def Kw (v : Value) (es : List eG) : HP := Row 189 3 v es.length (es.flatMap eG.enc) • kW es
def BU (I : Hp) (sz : Nat) (v : Value) (n : Nat) (xs : List Value) : Prop := xs.length = n * sz ∧ ∃ a c, v = .slice a n c ∧ n ≤ c ∧ (c : Int) ≤ 9223372036854775807 ∧
  (0 < n → ∃ b o cs e fr, a = some ⟨b, o, none⟩ ∧ I b = some (.cells cs e fr) ∧ ∀ j, j < n * sz → cs[o + j]? = some (xs.getD j undef))
theorem BU.mono {I I' : Hp} {sz n : Nat} {v : Value} {xs : List Value} (hl : Hp.le I I') (h : BU I sz v n xs) : BU I' sz v n xs := by
  obtain ⟨h0, a, c, h1, h2, h3, h4⟩ := h
  exact ⟨h0, a, c, h1, h2, h3, fun hp => let ⟨b, o, cs, e, fr, e1, e2, e3⟩ := h4 hp; ⟨b, o, cs, e, fr, e1, hl _ _ e2, e3⟩⟩
theorem BU.rd {w : World} {m : Nat} {I : Hp} {sz n : Nat} {v : Value} {xs : List Value} (h : BU I sz v n xs) (hI : ∀ k o, I k = some o → m ≤ k ∧ w.heap[k]? = some o) : Rd w sz v n xs := by
  obtain ⟨h0, a, c, h1, h2, h3, h4⟩ := h
  exact ⟨h0, a, c, h1, h2, h3, fun hp => let ⟨b, o, cs, e, fr, e1, e2, e3⟩ := h4 hp; ⟨b, o, e1, fun j hj => iT (hI _ _ e2).2 (e3 j hj)⟩⟩
theorem BU.Vz {I : Hp} {sz n : Nat} {v : Value} {xs : List Value} (h : BU I sz v n xs) : v.oneCell' = true := by obtain ⟨_, a, c, rfl, _⟩ := h; rfl
def ElI (I : Hp) (v : Value) (es : List eG) : Prop := BU I 3 v es.length (es.flatMap eG.enc) ∧ FZ I es
theorem ElI.mono {I I' : Hp} {v : Value} {es : List eG} (hl : Hp.le I I') (h : ElI I v es) : ElI I' v es := ⟨h.1.mono hl, h.2.mono hl⟩
def Cm (v : Value) (es : List eG) : HP := know (fun I => ElI I v es) fun _ _ hl h => h.mono hl
def CY (I : Hp) (gs : List (Value × List eG)) : Prop := ∀ k, k < gs.length → ElI I (gs.getD k default).1 (gs.getD k default).2
theorem CY.mono {I I' : Hp} {gs : List (Value × List eG)} (hl : Hp.le I I') (h : CY I gs) : CY I' gs := fun k hk => (h k hk).mono hl
theorem CY.app {I : Hp} {es fs : List (Value × List eG)} (h : CY I es) (g : CY I fs) : CY I (es ++ fs) := fun k hk => by
  by_cases hl : k < es.length
  · rw [uY hl]; exact h k hl
  · rw [tq (by omega)]; exact g _ (by simp at hk; omega)
theorem CY.one {I : Hp} {v : Value} {es : List eG} (h : ElI I v es) : CY I [(v, es)] := fun k hk => by
  obtain rfl : k = 0 := by simp at hk; omega
  exact h
theorem CY.take {I : Hp} {gs : List (Value × List eG)} (h : CY I gs) (n : Nat) : CY I (gs.take n) := fun k hk => by
  simp at hk
  rw [EL (by omega)]
  exact h k (by omega)
def oH (gs : List (Value × List eG)) : HP := know (fun I => CY I gs) fun _ _ hl h => h.mono hl
def CZ (v : Value) (gs : List (Value × List eG)) : HP := Row 80 1 v gs.length (gs.map (·.1)) • oH gs
section
variable {w0 w : World} {F : HP} {v u : Value} {es fs : List eG} {e : eG} {gs : List (Value × List eG)} {a : Int} {d i : Value} {dl il : List Int}
theorem V.NT (H : V w0 w F) : V w0 w (kW [] • F) := H.wI fun I k hk => by simp at hk
theorem V.Ho (H : V w0 w F) : V w0 w (oH [] • F) := H.wI fun I k hk => by simp at hk
theorem V.tu (H : V w0 w F) (a : Option Addr) : V w0 w (Kw (.slice a 0 0) [] • F) := (H.NT.jk (e := 189) (sz := 3) a).deep
theorem V.Hr (H : V w0 w F) (a : Option Addr) : V w0 w (CZ (.slice a 0 0) [] • F) := (H.Ho.jk (e := 80) (sz := 1) a).deep
theorem V.edL (H : V w0 w (Kw v es • F)) : V w0 w (Row 189 3 v es.length (es.flatMap eG.enc) • kW es • F) := H.flat
theorem V.YK (H : V w0 w (CZ v gs • F)) : V w0 w (Row 80 1 v gs.length (gs.map (·.1)) • oH gs • F) := H.flat
theorem V.DZ (H : V w0 w (Row 189 3 v (es.length + 1) (es.flatMap eG.enc ++ [.int .i64 a, d, i]) • nD .i32 d dl • nD .i32 i il • kW es • F)) : V w0 w (Kw v (es ++ [⟨a, d, dl, i, il⟩]) • F) := by
  have h1 : V w0 w (nD .i32 d dl • nD .i32 i il • kW es • Row 189 3 v (es.length + 1) (es.flatMap eG.enc ++ [.int .i64 a, d, i]) • F) := H.of_eq (by ac_rfl)
  have h2 : V w0 w (edK ⟨a, d, dl, i, il⟩ • kW es • Row 189 3 v (es.length + 1) (es.flatMap eG.enc ++ [.int .i64 a, d, i]) • F) := h1.EF (vG (fun I h g => ⟨h, g⟩) _)
  have h3 : V w0 w (kW (es ++ [⟨a, d, dl, i, il⟩]) • Row 189 3 v (es.length + 1) (es.flatMap eG.enc ++ [.int .i64 a, d, i]) • F) := h2.EF (vG (fun I h g => g.app (FZ.one h)) _)
  refine V.deep (h3.swap.of_eq ?_)
  rw [List.length_append, List.flatMap_append]
  simp [eG.enc]
theorem V.qF (H : V w0 w (Kw v es • F)) : V w0 w (Cm v es • F) := by
  have hl := H.edL.xZ
  have H := H.edL
  rcases H.vF with ⟨a, rfl, h1, h2, H1⟩ | ⟨g, o, c, cur, rfl, h2, h3, h4, h5, H1⟩
  · refine H1.EF (pI (fun I hI => ⟨⟨hl, a, 0, by rw [h1], by omega, by decide, fun h => by omega⟩, hI⟩) F)
  · exact H1.freeze.EF (vG (fun I hI hE => ⟨⟨hl, _, c, rfl, h2, h3, fun _ => ⟨g, o, cur, _, (0, 0), rfl, hI, h5⟩⟩, hE⟩) F)
theorem V.vY (H : V w0 w (Cm v es • F)) : Rd w 3 v es.length (es.flatMap eG.enc) := let ⟨I, h, hI⟩ := H.rJ; h.1.rd hI
theorem V.ach (H : V w0 w (Cm v es • F)) {k : Nat} (hk : k < es.length) : dR w .i32 (es.getD k default).d (es.getD k default).dl := let ⟨I, h, hI⟩ := H.rJ; (h.2 k hk).1.rd hI
theorem V.aci (H : V w0 w (Cm v es • F)) {k : Nat} (hk : k < es.length) : dR w .i32 (es.getD k default).i (es.getD k default).il := let ⟨I, h, hI⟩ := H.rJ; (h.2 k hk).2.rd hI
theorem V.NU (H : V w0 w (oH gs • F)) {k : Nat} (hk : k < gs.length) : V w0 w (Cm (gs.getD k default).1 (gs.getD k default).2 • oH gs • F) := H.sO.EF (pI (fun I h => h k hk) _)
theorem V.NV (H : V w0 w (oH gs • F)) (n : Nat) : V w0 w (oH (gs.take n) • F) := H.EF (pI (fun I h => h.take n) _)
theorem V.rY (H : V w0 w (Row 80 1 v (gs.length + 1) (gs.map (·.1) ++ [u]) • Cm u es • oH gs • F)) : V w0 w (CZ v (gs ++ [(u, es)]) • F) := by
  have h1 : V w0 w (Cm u es • oH gs • Row 80 1 v (gs.length + 1) (gs.map (·.1) ++ [u]) • F) := H.of_eq (by ac_rfl)
  have h3 : V w0 w (oH (gs ++ [(u, es)]) • Row 80 1 v (gs.length + 1) (gs.map (·.1) ++ [u]) • F) := h1.EF (vG (fun I h g => g.app (CY.one h)) _)
  refine V.deep (h3.swap.of_eq ?_)
  rw [List.length_append, List.map_append]
  rfl
theorem V.AL (H : V w0 w (kW es • F)) : ∀ x ∈ es.flatMap eG.enc, x.oneCell' = true := by
  obtain ⟨I, h, hI⟩ := H.rJ
  intro x hx
  obtain ⟨e, he, hx⟩ := List.mem_flatMap.1 hx
  obtain ⟨k, hk, rfl⟩ := List.getElem_of_mem he
  have := h k hk
  rw [List.getD_eq_getElem?_getD, List.getElem?_eq_getElem hk] at this
  simp [eG.enc] at hx
  rcases hx with rfl | rfl | rfl
  · rfl
  · exact this.1.Vz
  · exact this.2.Vz
end
end Go.Proofs.YtpdeedplgmbopaaGreatDoor
end
