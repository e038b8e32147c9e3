import Derived.Test.YtpdeedplgmbopaaGreatDoorZ4
import Derived.Test.YtpdeedplgmbopaaGreatDoorZ12
import Derived.Test.YtpdeedplgmbopaaGreatDoorZ6
import Derived.Test.YtpdeedplgmbopaaGreatDoorZ9
import Derived.Test.YtpdeedplgmbopaaGreatDoorZ7
import Derived.Test.YtpdeedplgmbopaaGreatDoorZ3
import Derived.Test.YtpdeedplgmbopaaGreatDoorZ10
import Derived.Test.YtpdeedplgmbopaaGreatDoorZ11
import Derived.Test.YtpdeedplgmbopaaGreatDoorZ5
set_option linter.unusedSimpArgs false
set_option linter.unusedVariables false
/- Texts of mine, joined, their names in short: VC HistF RHist RWalk VNm VWa VM. -/
section
namespace Go.Proofs.YtpdeedplgmbopaaGreatDoor
open Go.RowKit
open _root_.Go.Proofs.Tryz
def E8 (st : Int) (n i : Int) : Int := if st = 1 then n - i else i + 1
theorem Lc {st n i : Int} (h : st = 1 ∨ st = -1) : E8 st n (i + st) + 1 = E8 st n i := by
  unfold E8; rcases h with rfl | rfl
  · rw [if_pos rfl, if_pos rfl]; omega
  · rw [if_neg (by decide), if_neg (by decide)]; omega
theorem Io {st n i : Int} (h : st = 1 ∨ st = -1) (h0 : 0 ≤ i) (h1 : i < n) : 0 < E8 st n i ∧ E8 st n i ≤ n := by
  unfold E8; rcases h with rfl | rfl
  · rw [if_pos rfl]; omega
  · rw [if_neg (by decide)]; omega
theorem ZA (key : Int) : sV key = 1 ∨ sV key = -1 := by unfold sV; split <;> simp
theorem UC {c m x : Int} (h : ¬ x = c) : E5 c m x = some m := if_neg h
theorem UD {c m x : Int} (h : x = c) (h2 : 0 < m - 1) : E5 c m x = some (m - 1) := by unfold E5; rw [if_pos h, if_neg (by omega)]
theorem Xy {c m x : Int} (h : x = c) (h2 : m - 1 ≤ 0) : E5 c m x = none := by unfold E5; rw [if_pos h, if_pos (by omega)]
theorem DT {l : List Int} {x n key c i : Int} (h : yE (sV key) (E5 c) l n (x + sV key) = some i) : Ik l x key c n = (if key = 116 ∨ key = 84 then i - sV key else i, decide (0 < sV key), true) := by unfold Ik; rw [h]
theorem I9 {l : List Int} {x n key c : Int} (h : yE (sV key) (E5 c) l n (x + sV key) = none) : Ik l x key c n = (0, false, false) := by unfold Ik; rw [h]
section
variable {w0 w : World} {F : HP} {v : Value} {l : List Int} {x n key c r : Int} {s : ByteArray}
theorem UE (H : V w0 w F) (hr : jF w0 F .i32 v l) (hx : 0 ≤ x ∧ x ≤ l.length) (hn : 1 ≤ n) (hn2 : n ≤ 9223372036854775807) (Ym : l.length ≤ 4611686018427387904) : iE prog 42 #[v, .int .i64 x, .int .i32 key, .int .i32 c, .int .i64 n] w fun u w' => u = Xx (Ik l x key c n) ∧ V w0 w' F := by
 have hst := ZA key
 refine afr func42 ntmps42 ?_
 refine iR (iK O (iK O (fG O (jQ O ?_))))
 refine kT [(0, _), (1, _), (2, _), (3, _), (4, _)] (fun (_ : Unit) => [(13, .int .i64 (sV key))]) (fun (_ : Unit) W => V w0 W F) sb5 ?_ ?_
 ·rintro _ w1 HL
  dsimp only [List.cons_append, List.nil_append]
  refine aN (bQ O (bT O (Z (fJ O O (by omega)) (fG O (aY ?_)))))
  refine gW [(0, _), (2, _), (3, _), (13, _)] (fun (⟨i, m⟩ : Int × Int) => [(4, .int .i64 m), (14, .int .i64 i)]) (fun (⟨i, m⟩ : Int × Int) W => ((-1 ≤ i ∧ i ≤ l.length + 1) ∧ (1 ≤ m ∧ m ≤ n) ∧ yE (sV key) (E5 c) l n (x + sV key) = yE (sV key) (E5 c) l m i) ∧ V w0 W F) (fun (⟨i, m⟩ : Int × Int) => (E8 (sV key) l.length i).toNat) ((x + sV key, n)) OM uJ ⟨⟨by omega, by omega, O⟩, HL⟩ ?_
  rintro ⟨i, m⟩ w2 ⟨⟨hi, hm, hE⟩, HL⟩
  dsimp only [List.cons_append, List.nil_append]
  have hms := Lc (n := l.length) (i := i) hst
  have hmp := fun h0 h1 => Io (n := l.length) (i := i) hst h0 h1
  refine aN (bQ O (Z (lV O O) (jG O (fun h1 => ?_) (fun h1 => ?_))))
  ·(try simp only [aA] at h1)
   refine bg (bT O (bg (bT O (bg (Z (iM (hr _ (HL)) aj O) (bg (Z (fZ O O) (iU O O (jB O (fun h2 => ?_) (fun h2 => ?_))))))))))
   ·(try simp only [aA] at h2)
    refine gG (aN (aY (aN (bQ O (bT O ?_)))))
    obtain ⟨bv, ov, cv, ev⟩ := gJ.rM (hr _ (HL)) (by omega)
    cases ev
    refine Z (dP aj bZ O O (by omega)) ?_
    refine Z (fK (dA bG O) O (by first | exact gJ.ni (hr _ (HL)) (by omega) | exact gJ.yc (hr _ (HL)) (by omega) | exact gJ.yx (hr _ (HL)) (by omega))) ?_
    refine bT O (Z (ig O O) (jB O (fun h3 => ?_) (fun h3 => ?_)))
    ·(try simp only [aA] at h3)
     have hf := UC (m := m) h3
     refine dO (aO (bI (aX (aC (jR O O (Z (fJ O O (by omega)) (iK O (bW ?_))))))))
     refine dV (_, _) uJ OM (by (try dsimp only); exact ⟨⟨by omega, by omega, hE.trans (KX hst (by omega) (by omega) hf)⟩, HL⟩) ?_
     ·(try dsimp only); have := hmp (by omega) (by omega); omega
    ·(try simp only [aA] at h3)
     have heq : l.getD i.toNat 0 = c := by have h9 := h3; omega
     refine gG (aN (bQ O (Z (iV O O (by omega)) (fG O (bQ O (Z (dY O O) (jB O (fun h4 => ?_) (fun h4 => ?_))))))))
     ·(try simp only [aA] at h4)
      have hf := UD heq h4
      refine dO (aO (bI (aX (aC (jR O O (Z (fJ O O (by omega)) (iK O (bW ?_))))))))
      refine dV (_, _) uJ OM (by (try dsimp only); exact ⟨⟨by omega, by omega, hE.trans (KX hst (by omega) (by omega) hf)⟩, HL⟩) ?_
      ·(try dsimp only); have := hmp (by omega) (by omega); omega
     ·(try simp only [aA] at h4)
      have hf := Xy heq h4
      refine gG (aN (bQ O (Z (dX O O) (jG O (fun h5 => ?_) (fun h5 => ?_)))))
      ·(try simp only [aA] at h5)
       refine bF (bF (iU O O (iJ (CP (aC (jR O O (Z (iV O O (by omega)) (fG O (bQ O (bT O (Z (dY O O) (iK O (iK O (fB O (aT (aB (aB (aT (aB ?_)))))))))))))))))))
       refine ji (.inl O) results42 O O O ?_
       refine ⟨?_, HL⟩
       rw [DT (hE.trans (Et (by omega) (by omega) hf))]
       first | (rw [if_pos (by omega)]; rfl) | (rw [if_neg (by omega)]; rfl)
      ·(try simp only [aA] at h5)
       refine bg (bT O (bg (Z (dX O O) (iH O O (jB O (fun h6 => ?_) (fun h6 => ?_))))))
       ·(try simp only [aA] at h6)
        refine aC (jR O O (Z (iV O O (by omega)) (fG O (bQ O (bT O (Z (dY O O) (iK O (iK O (fB O (aT (aB (aB (aT (aB ?_))))))))))))))
        refine ji (.inl O) results42 O O O ?_
        refine ⟨?_, HL⟩
        rw [DT (hE.trans (Et (by omega) (by omega) hf))]
        first | (rw [if_pos (by omega)]; rfl) | (rw [if_neg (by omega)]; rfl)
       ·(try simp only [aA] at h6)
        refine gG (bQ O (bT O (Z (dY O O) (iK O (iK O (fB O (aT (aB (aB (aT (aB ?_)))))))))))
        refine ji (.inl O) results42 O O O ?_
        refine ⟨?_, HL⟩
        rw [DT (hE.trans (Et (by omega) (by omega) hf))]
        first | (rw [if_pos (by omega)]; rfl) | (rw [if_neg (by omega)]; rfl)
   ·(try simp only [aA] at h2)
    refine dO (aO (aO (bI (aX (iR (iK O (iK O (fB O ?_))))))))
    refine ji (.inl O) results42 O O O ?_
    exact ⟨by rw [I9 (hE.trans (Es (by omega)))]; rfl, HL⟩
  ·(try simp only [aA] at h1)
   refine bF (bF (bF (bF (iH O O (iJ (qo (dO (aO (aO (bI (aX (iR (iK O (iK O (fB O ?_)))))))))))))))
   refine ji (.inl O) results42 O O O ?_
   exact ⟨by rw [I9 (hE.trans (Es (by omega)))]; rfl, HL⟩
 ·skip
  refine bQ O (Z (dX O O) (jG O (fun h7 => ?_) (fun h7 => ?_)))
  ·(try simp only [aA] at h7)
   refine bF (bF (iU O O (iJ (CP (aC (iK O (bW ?_)))))))
   refine dw (()) ?_ ?_ ?_
   ·exact (Sub.jv O (by congr 1; unfold sV; first | rw [if_pos (by omega)] | rw [if_neg (by omega)]) (Sub.nil _))
   ·exact sb5
   ·(try dsimp only)
    first | done | exact H
  ·(try simp only [aA] at h7)
   refine bg (bT O (bg (Z (dX O O) (iH O O (jB O (fun h8 => ?_) (fun h8 => ?_))))))
   ·(try simp only [aA] at h8)
    refine aC (iK O (bW ?_))
    refine dw (()) ?_ ?_ ?_
    ·exact (Sub.jv O (by congr 1; unfold sV; first | rw [if_pos (by omega)] | rw [if_neg (by omega)]) (Sub.nil _))
    ·exact sb5
    ·(try dsimp only)
     first | done | exact H
   ·(try simp only [aA] at h8)
    refine cZ ?_
    refine dw (()) ?_ ?_ ?_
    ·exact (Sub.jv O (by congr 1; unfold sV; first | rw [if_pos (by omega)] | rw [if_neg (by omega)]) (Sub.nil _))
    ·exact sb5
    ·(try dsimp only)
     first | done | exact H
end
end Go.Proofs.YtpdeedplgmbopaaGreatDoor
end
section
namespace Go.Proofs.YtpdeedplgmbopaaGreatDoor
open Go.RowKit
def aeK (l : List sN) : Int := if l.any (fun x => decide (16384 < x.1.size)) then 3 else if l.any (fun x => decide (x.2 < 0)) then 1 else 0
section
variable {P : Program} {L : List (Nat × Value)} {w0 w : World} {F : HP} {p : Nat} {hl l : List sN} {base most : Int} {v : Value}
def aco (hl : List sN) (most : Int) : Nat := hl.length - most.toNat
def agf (hl : List sN) (most : Int) (l : List sN) : List sN := if aeK l = 0 then (hl ++ l).drop (aco (hl ++ l) most) else hl
def agh (hl : List sN) (base most : Int) (l : List sN) : Int := if aeK l = 0 then base + aco (hl ++ l) most else base
end
def ahb (l : List sN) : List sN := agf [] 4096 l
def ahc (l : List sN) : Int := agh [] 1 4096 l
end Go.Proofs.YtpdeedplgmbopaaGreatDoor
end
section
namespace Go.Proofs.YtpdeedplgmbopaaGreatDoor
open Go.RowKit
open _root_.Go.Proofs.Tryz
theorem EH.cut {I : Hp} {v : Value} {sz n : Nat} {xs : List Value} (hr : EH I sz v n xs) {l h : Nat} (h1 : l ≤ h) (h2 : h ≤ n) : EH I sz (vJ sz l h v) (h - l) ((xs.drop (l * sz)).take ((h - l) * sz)) := by
  obtain ⟨hl, a, c, rfl, hc1, hc2, hc⟩ := hr
  refine ⟨?_, Fp a l c sz, c - l, rfl, by omega, by omega, fun hp => ?_⟩
  · rw [List.length_take, List.length_drop, hl, ← Nat.sub_mul]
    exact Nat.min_eq_left (Nat.mul_le_mul_right _ (by omega))
  · obtain ⟨b, o, cs, e, fr, rfl, hI, hcell⟩ := hc (by omega)
    have : ¬ c = l := by omega
    refine ⟨b, o + l * sz, cs, e, fr, by simp [Fp, this, wG], hI, fun j hj => ?_⟩
    have e1 : l * sz + (h - l) * sz = h * sz := by rw [← Nat.add_mul]; congr 1; omega
    have e2 : h * sz ≤ n * sz := Nat.mul_le_mul_right _ h2
    have := hcell (l * sz + j) (by omega)
    rw [Nat.add_assoc, this, List.getD_eq_getElem?_getD, List.getD_eq_getElem?_getD, List.getElem?_take, if_pos hj, List.getElem?_drop]
def hlK (v : Value) (l : List sN) : HP := know (fun I => EH I 2 v l.length (l.flatMap CW)) fun _ _ hl h => h.mono hl
def kC (p : Nat) (hl : List sN) (base most : Int) : HP := wE fun (v : Value) => fact (HOk hl base most) • dW p (.cells #[v, .int .i64 base, .int .i64 most] 155 (0, 0)) • hlK v hl
section
variable {P : Program} {L : List (Nat × Value)} {w0 w : World} {F : HP} {p : Nat} {hl l : List sN} {base most : Int} {v : Value}
theorem V.Ld (H : V w0 w (hlK v l • F)) : Rd w 2 v l.length (l.flatMap CW) := let ⟨I, h, hI⟩ := H.uF; h.rd hI
theorem V.Oh (H : V w0 w (Row 218 2 v l.length (l.flatMap CW) • F)) : V w0 w (hlK v l • F) := by
  have hl := H.yI
  rcases H.vI with ⟨a, rfl, h1, h2, H1⟩ | ⟨g, o, c, cur, rfl, h2, h3, h4, h5, H1⟩
  · exact H1.yJ fun I => ⟨hl, a, 0, by rw [h1], by omega, by decide, fun h => by omega⟩
  · exact H1.freeze.F7 (qN (fun I hI => ⟨hl, _, c, rfl, h2, h3, fun _ => ⟨g, o, cur, _, (0, 0), rfl, hI, h5⟩⟩) F)
theorem V.V7 (H : V w0 w (kC p hl base most • F)) : ∃ v, HOk hl base most ∧ V w0 w (dW p (.cells #[v, .int .i64 base, .int .i64 most] 155 (0, 0)) • hlK v hl • F) := by
  obtain ⟨v, H⟩ := H.nX
  obtain ⟨h, H⟩ := H.flat.fact
  exact ⟨v, h, H.flat⟩
theorem V.GR (h : HOk hl base most) (H : V w0 w (dW p (.cells #[v, .int .i64 base, .int .i64 most] 155 (0, 0)) • hlK v hl • F)) : V w0 w (kC p hl base most • F) :=
  V.jw v (V.deep (V.lK h H.deep))
theorem adh {l : List sN} {k : Nat} (hk : k < l.length) : (l.flatMap CW).getD (k * 2 + 0) undef = .string (l.getD k default).1 := by
  have h := congrArg (fun x => x.getD 0 undef) (wK NZ hk default)
  simp only [List.getD_eq_getElem?_getD, List.getElem?_take, List.getElem?_drop] at h ⊢
  exact h
theorem MO {n : Int} (H : V w0 w F) (hn : 0 ≤ n ∧ n ≤ 4096) : iE prog 56 #[.int .i64 n] w fun v w' => ∃ p, v = .tuple #[.pointer (some ⟨p, 0, none⟩), .int .i64 0] ∧ V w0 w' (kC p [] 1 n • F) := by
  refine iZ func56 ntmps56 ?_
  refine iR (iK O (uZ O (bQ O (Z (fZ O O) (jG O (fun h1 => ?_) (fun h1 => ?_))))))
  · (try simp only [aA] at h1)
    exfalso; first | contradiction | omega
  · (try simp only [aA] at h1)
    refine bg (bT O (bg (Z (dY O O) (iH O O (jB O (fun h2 => ?_) (fun h2 => ?_))))))
    · (try simp only [aA] at h2)
      exfalso; first | contradiction | omega
    · (try simp only [aA] at h2)
      refine gG (bQ O ?_)
      refine Z (fC (zl := [.slice none 0 0, .int .i64 0, .int .i64 0]) (pl := [(0, 1), (1, 1), (2, 1)]) [_, _, _] mg zeroValue155 O (fun w => by kernel_rfl) O (.zero (zs := [.slice none 0 0]) O (.on (.on .nil))) O) ?_
      refine kD (jL (l := [_, _, _]) H O O) ?_
      rintro _ w1 ⟨b1, rfl, H1⟩
      refine iK O (fB O (NR results56 O O ?_))
      exact ⟨_, O, V.GR (v := .slice none 0 0) (hl := []) ⟨by simp, by decide, by decide, by simp; omega, by omega, by simp⟩ ((H1.jk none).Oh (l := [])).swap⟩
theorem Jp (H : V w0 w (kC p hl base most • F)) : iE prog 113 #[.pointer (some ⟨p, 0, none⟩)] w fun v w' => ∃ q, v = .pointer (some ⟨q, 0, none⟩) ∧ V w0 w' (kC q hl base most • kC p hl base most • F) := by
 refine iZ func113 ntmps113 ?_
 refine jQ O (aN ?_)
 obtain ⟨Uj, EJ, Df⟩ := (H).V7
 have hkl := EJ.1
 have Rx := @VL hl
 have Ug := Df.drew
 have qC := V.kp (Ug.f2.f2)
 refine yH [3, 8, 12] qC O (iQ 0 O qC O (jU 1 O qC O (gU 2 O qC 0 mg O sizeOf149 O (jO 3 O qC (fun W hW => jV gX O ((Kp.h hW)).get.2 O) (iQ 5 O qC O (jU 6 O qC O (gU 7 O qC 1 mg O sizeOf2 O (jO 8 O qC (fun W hW => jV underlying2 O ((Kp.h hW)).get.2 O) (iQ 9 O qC O (jU 10 O qC O (gU 11 O qC 2 mg O ay O (jO 12 O qC (fun W hW => jV aH O ((Kp.h hW)).get.2 O) (mZ 4 O (iy (Ug.jk none) gX adi O O O ((Ug.f2).Ld) (by assumption) (by omega) (by omega)) ?_)))))))))))))
 rintro l2 w2 H2
 have AL := V.kp (H2.f3.f3.f3)
 refine eF AL (fun W hW => (Kp.h hW).right.f2.f2) ?_
 refine jC 13 O AL (fun _ => fC (zl := [.slice none 0 0, .int .i64 0, .int .i64 0]) (pl := [(0, 1), (1, 1), (2, 1)]) [_, _, _] mg zeroValue155 O (fun w => by kernel_rfl) O (.one (Rd.one ((H2).aS)) (.on (.on .nil))) O) ?_
 refine mZ 14 O (jL (l := [_, _, _]) H2 O O) ?_
 rintro _ w3 ⟨b3, rfl, H3⟩
 have Az := V.kp (H3.f4.f4.f4.f4)
 refine iG Az (by kernel_rfl) ?_
 refine jC 15 O Az (fun _ => dR O) (qV (aX (nI (dL results113 O ?_))))
 have Ho5 := H3.f4.f4
 have Hc6 := V.GR EJ Ho5
 have HQ := Hc6.f2.f3
 rw [List.nil_append, Nat.zero_add] at HQ
 exact ⟨_, O, V.GR EJ HQ.Oh.swap⟩
end
def strs (l : List ByteArray) : List Value := l.map Value.string
theorem Oi {l : List ByteArray} : ∀ x ∈ strs l, x.oneCell' = true := by
  intro x hx
  obtain ⟨e, _, rfl⟩ := List.mem_map.1 hx
  rfl
def qc (hl : List sN) : List ByteArray := hl.map (·.1) ++ [.empty]
section
variable {P : Program} {L : List (Nat × Value)} {w0 w : World} {F : HP} {p : Nat} {hl l : List sN} {base most : Int} {v : Value}
theorem Xz {hl : List sN} {k : Nat} (hk : k < hl.length) : strs ((hl.take (k + 1)).map (·.1)) = strs ((hl.take k).map (·.1)) ++ [.string (hl.getD k default).1] := by
  unfold strs
  rw [List.take_succ_eq_append_getElem hk, List.map_append, List.map_append, List.getD_eq_getElem?_getD, List.getElem?_eq_getElem hk]; rfl
theorem MQ (H : V w0 w (kC p hl base most • F)) : iE prog 114 #[.pointer (some ⟨p, 0, none⟩)] w fun v w' => ∃ q ov nv, v = .pointer (some ⟨q, 0, none⟩) ∧
  V w0 w' (dW q (.cells #[ov, nv, .int .i64 hl.length] 166 (0, 0)) • Row 9 1 ov (qc hl).length (strs (qc hl)) • Row 9 1 nv (qc hl).length (strs (qc hl)) • kC p hl base most • F) := by
 refine iZ func114 ntmps114 ?_
 refine jQ O (aN ?_)
 obtain ⟨Uj, EJ, Df⟩ := (H).V7
 have hkl := EJ.1
 refine aC (nG O O (bJ 0 mg O sizeOf149 O (fM gX O (Df).get.2 O (Z (kK ((Df.f2).Ld) gX O) ?_))))
 refine Z (fC (zl := [.slice none 0 0, .slice none 0 0, .int .i64 0]) (pl := [(0, 1), (1, 1), (2, 1)]) [_, _, _] iI zeroValue166 O (fun w => by kernel_rfl) O (.zero (zs := [.slice none 0 0]) O (.zero (zs := [.slice none 0 0]) O (.on .nil))) O) ?_
 refine kD (jL (l := [_, _, _]) Df O O) ?_
 rintro _ w2 ⟨b2, rfl, H2⟩
 refine uZ O (jQ O (aY ?_))
 refine gW [(0, _), (3, _)] (fun (⟨k, u⟩ : Nat × Value) => [(4, .int .i64 (k : Int))]) (fun (⟨k, u⟩ : Nat × Value) W => k ≤ hl.length ∧ V w0 W (dW b2 (.cells #[u, .slice none 0 0, .int .i64 hl.length] 166 (0, 0)) • Row 9 1 u k (strs ((hl.take k).map (·.1))) • dW p (.cells #[Uj, .int .i64 base, .int .i64 most] 155 (0, 0)) • hlK Uj hl • F)) (fun (⟨k, u⟩ : Nat × Value) => hl.length - k) ((0, .slice none 0 0)) uJ lU ⟨by omega, (H2.f3.f3.f3).jk none |>.swap⟩ ?_
 rintro ⟨k, u⟩ w3 ⟨hk, HL⟩
 dsimp only [List.cons_append, List.nil_append]
 refine aN (bQ O (nG O O (bJ 0 mg O sizeOf149 O (fM gX O (HL.f3).get.2 O (Z (kK ((HL.f4).Ld) gX O) (Z (fZ O O) (jB O (fun h1 => ?_) (fun h1 => ?_))))))))
 ·(try simp only [aA] at h1)
  have hkl2 : k < hl.length := by have h9 := h1; omega
  refine gG (aN (aY ?_))
  have adj := HL.drew
  have Aj := V.kp (adj.f4.f4.f4.f4)
  refine yH [4, 8, 12] Aj O (iQ 0 O Aj O (iQ 1 O Aj O (jU 2 O Aj O (gU 3 O Aj 0 iI O sizeOf33 O (jO 4 O Aj (fun W hW => jV jq O ((Kp.h hW)).get.2 O) (iQ 5 O Aj O (jU 6 O Aj O (gU 7 O Aj 0 mg O sizeOf149 O (jO 8 O Aj (fun W hW => jV gX O ((Kp.h hW).f3).get.2 O) (iQ 9 O Aj O ?_))))))))))
  obtain ⟨aeL, aeM, aeN, ZB⟩ := Rd.rM ((adj.f4).Ld) (by omega)
  cases ZB
  refine jC 10 O Aj (fun _ => dP gX sizeOf218 O O (by omega)) (gU 11 O Aj 0 mD O nD O (jO 12 O Aj (fun W hW => Qm (fK (dA jS O) O (Rd.atS (((Kp.h hW).f4).Ld) (by omega) (by decide))) (adh hkl2)) (mZ 13 O (lq (vs := [_]) adj jq nD zeroValue9 O O O (by decide) (aG bU)) ?_)))
  rintro l4 w4 H4
  have zq := V.kp (H4.f5.f5.f5.f5.f5)
  refine eF zq (fun W hW => (Kp.h hW).right.f4.f4.f4.f4) ?_
  refine mZ 14 O (iy H4.f3 jq abt O O O ((H4).aS) (aG bU) (by omega) (by omega)) ?_
  rintro l5 w5 H5
  have Hd6 := H5.f2.right
  have BR := V.kp (Hd6.f4.f4.f4.f4)
  refine iG BR (by kernel_rfl) ?_
  refine jU 15 O BR O (gU 16 O BR 0 iI O sizeOf33 O ?_)
  refine gB 17 O (by kernel_rfl) (fP 0 (l' := [_, _, _]) Hd6.f2 sizeOf33 O O (by first | rfl | exact Rd.one ((Hd6).aS)) O O) ?_
  rintro _ w7 H7
  have Bd := V.kp (H7.f4.f4.f4.f4)
  refine iG Bd (by kernel_rfl) ?_
  refine qV (aK (aX (aC (bT O (Z (fJ O O (by omega)) (iK O (bW ?_)))))))
  refine dV ((k + 1, l5)) ?_ ?_ ?_ ?_
  ·exact lU
  ·exact uJ
  ·(try dsimp only)
   first | done | exact ⟨by omega, by rw [Xz hkl2]; exact H7⟩
  ·(try dsimp only); omega
 ·(try simp only [aA] at h1)
  refine dO (aO (aO (bI (aX (aN ?_)))))
  obtain rfl : k = hl.length := by omega
  refine aC (jR O O (dK O (bJ 0 iI O sizeOf33 O (fM jq O (HL).get.2 O (kD (lq (vs := [_]) HL jq nD zeroValue9 O O O (by decide) (aG bU)) ?_)))))
  rintro l8 w8 H8
  refine kD (iy H8.f3 jq abt O O O ((H8).aS) (aG bU) (by omega) (by omega)) ?_
  rintro l9 w9 H9
  have abu := H9.f2.right
  refine dK O (bJ 0 iI O sizeOf33 O (aJ (fP 0 (l' := [_, _, _]) abu.f2 sizeOf33 O O (by first | rfl | exact Rd.one ((abu).aS)) O O) ?_))
  rintro _ Fv tq
  have HX := tq
  rw [List.take_length, show strs (hl.map (·.1)) ++ [Value.string { data := #[] }] = strs (qc hl) from by unfold qc strs; rw [List.map_append]; rfl, show hl.length + 1 = (qc hl).length from by simp [qc]] at HX
  have hon := @Oi (qc hl)
  have hol : (qc hl).length = hl.length + 1 := by simp [qc]
  refine rG O (nG O O (bJ 0 iI O sizeOf33 O (fM jq O (HX).get.2 O (kD (iy (HX.jk none) jq abt O O O ((HX.f2).aS) (by assumption) (by omega) (by omega)) ?_))))
  rintro l12 w12 vZ
  refine dK O (bJ 1 iI O sizeOf33 O (aJ (fP 1 (l' := [_, _, _]) vZ.f2 sizeOf33 O O (by first | rfl | exact Rd.one ((vZ).aS)) O O) ?_))
  rintro _ Qh wo
  refine rG O (fB O (dL results114 O ?_))
  have adk := wo.f5.f5
  have adl := V.GR EJ adk
  have HQ := adl.f3.f4.f4
  rw [List.nil_append, Nat.zero_add] at HQ
  exact ⟨_, _, _, O, HQ⟩
end
section
def aeO : ByteArray := ⟨#[118, 105, 45, 97, 114, 103, 45, 100, 105, 103, 105, 116]⟩
def ZC : ByteArray := ⟨#[118, 105, 45, 99, 104, 97, 110, 103, 101, 45, 99, 97, 115, 101]⟩
def FP : ByteArray := ⟨#[118, 105, 45, 99, 104, 97, 110, 103, 101, 45, 99, 104, 97, 114]⟩
def FQ : ByteArray := ⟨#[118, 105, 45, 99, 104, 97, 110, 103, 101, 45, 116, 111]⟩
def Fa : ByteArray := ⟨#[118, 105, 45, 100, 101, 108, 101, 116, 101]⟩
def Cb : ByteArray := ⟨#[118, 105, 45, 100, 101, 108, 101, 116, 101, 45, 116, 111]⟩
def ZE : ByteArray := ⟨#[118, 105, 45, 105, 110, 115, 101, 114, 116]⟩
def vW : ByteArray := ⟨#[118, 105, 45, 109, 111, 118, 101]⟩
def adn : ByteArray := ⟨#[118, 105, 45, 109, 111, 118, 101, 109, 101, 110, 116, 45, 109, 111, 100, 101]⟩
def ZF : ByteArray := ⟨#[118, 105, 45, 111, 118, 101, 114, 115, 116, 114, 105, 107, 101]⟩
def GU : ByteArray := ⟨#[118, 105, 45, 112, 117, 116]⟩
def ado : ByteArray := ⟨#[118, 105, 45, 114, 101, 100, 111]⟩
def Ip : ByteArray := ⟨#[118, 105, 45, 115, 101, 116, 45, 109, 97, 114, 107]⟩
def ZG : ByteArray := ⟨#[118, 105, 45, 115, 117, 98, 115, 116]⟩
def ZH : ByteArray := ⟨#[118, 105, 45, 117, 110, 100, 111]⟩
def Iq : ByteArray := ⟨#[118, 105, 45, 121, 97, 110, 107, 45, 116, 111]⟩
def PL : List ByteArray := [aeO, ZC, FP, FQ, Fa, Cb, ZE, vW, adn, ZF, GU, ado, Ip, ZG, ZH, Iq]
def AU (n : ByteArray) : Prop := ∃ k, k < 16 ∧ (PL.getD k .empty).toList = n.toList
theorem ZI {l : List ByteArray} {k : Nat} (hk : k < l.length) : (strs l).getD k undef = .string (l.getD k .empty) := by
  unfold strs; simp [List.getD_eq_getElem?_getD, hk]
def Ir : ByteArray := ⟨#[102, 70, 116, 84, 96]⟩
def adp : ByteArray := ⟨#[100, 99, 121]⟩
def Bq (n : ByteArray) (keys : List Int) : Prop :=
  if n.toList = vW.toList then keys.length = 1 ∧ keys.getD 0 0 ∈ zW Ir
  else if n.toList = FP.toList ∨ n.toList = Ip.toList then keys.length = 1
  else if n.toList = Cb.toList ∨ n.toList = FQ.toList ∨ n.toList = Iq.toList then
    keys.getD 0 0 ∈ zW adp ∧ ((mX (keys.drop 1)).length = 0 ∨ ((mX (keys.drop 1)).length = 1 ∧ (mX (keys.drop 1)).getD 0 0 ∈ zW Ir))
  else False
open Classical in
noncomputable def nM (n : ByteArray) (keys : List Int) : Int := if ¬ AU n then -1 else if keys.length = 0 then 1 else if Bq n keys then 1 else 0
section
variable {n : ByteArray} {keys : List Int}
theorem XA (h : ¬ AU n) : nM n keys = -1 := if_pos h
theorem ZJ (h : AU n) (h0 : keys.length = 0) : nM n keys = 1 := by unfold nM; rw [if_neg (not_not_intro h), if_pos h0]
theorem Ry (h : AU n) (h1 : Bq n keys) : nM n keys = 1 := by
  unfold nM; rw [if_neg (not_not_intro h), if_pos h1]; split <;> rfl
theorem DU (h : AU n) (h0 : ¬ keys.length = 0) (h1 : ¬ Bq n keys) : nM n keys = 0 := by unfold nM; rw [if_neg (not_not_intro h), if_neg h0, if_neg h1]
theorem iF (h : n.toList = vW.toList) : Bq n keys ↔ (keys.length = 1 ∧ keys.getD 0 0 ∈ zW Ir) := by unfold Bq; rw [if_pos h]
theorem lu (h1 : ¬ n.toList = vW.toList) (h : n.toList = FP.toList ∨ n.toList = Ip.toList) : Bq n keys ↔ keys.length = 1 := by unfold Bq; rw [if_neg h1, if_pos h]
theorem fD (h1 : ¬ n.toList = vW.toList) (h2 : ¬ (n.toList = FP.toList ∨ n.toList = Ip.toList)) (h : n.toList = Cb.toList ∨ n.toList = FQ.toList ∨ n.toList = Iq.toList) :
    Bq n keys ↔ (keys.getD 0 0 ∈ zW adp ∧ ((mX (keys.drop 1)).length = 0 ∨ ((mX (keys.drop 1)).length = 1 ∧ (mX (keys.drop 1)).getD 0 0 ∈ zW Ir))) := by unfold Bq; rw [if_neg h1, if_neg h2, if_pos h]
theorem uz (h1 : ¬ n.toList = vW.toList) (h2 : ¬ (n.toList = FP.toList ∨ n.toList = Ip.toList)) (h : ¬ (n.toList = Cb.toList ∨ n.toList = FQ.toList ∨ n.toList = Iq.toList)) : ¬ Bq n keys := by unfold Bq; rw [if_neg h1, if_neg h2, if_neg h]; exact id
end
section
variable {w0 w : World} {F : HP} {v u : Value} {l : List ByteArray} {n : ByteArray} {keys : List Int}
theorem UF (H : V w0 w F) : iE prog 19 #[] w fun u w' => V w0 w' (Row 9 1 u 16 (strs PL) • F) := by
  refine WM func19 ntmps19 ?_
  refine jQ O (iR (kD (lq (vs := [_, _, _, _, _, _, _, _, _, _, _, _, _, _, _, _]) H jq nD zeroValue9 O O O (by decide) (aG (aG (aG (aG (aG (aG (aG (aG (aG (aG (aG (aG (aG (aG (aG (aG bU))))))))))))))))) ?_))
  rintro l1 w1 H1
  refine fB O (dL results19 O ?_)
  exact H1
theorem XB (H : V w0 w F) (hr : WI w0 F 1 v l.length (strs l)) : iE prog 108 #[v, .string n] w fun u w' => ∃ i, u = .int .i64 i ∧ (0 ≤ i ↔ ∃ k, k < l.length ∧ (l.getD k .empty).toList = n.toList) ∧ V w0 w' F := by
 have Ym : l.length ≤ 9223372036854775807 := by obtain ⟨_, a, c, _, h1, h2, _⟩ := hr w H; omega
 refine oV func108 ntmps108 ?_
 refine jQ O (aN (bQ O (Z (kK (hr _ (H)) jq O) (bT O (iJ (aY ?_))))))
 refine gW [(0, _), (1, _), (7, _)] (fun (k : Nat) => [(8, .int .i64 (k : Int))]) (fun (k : Nat) W => (k ≤ l.length ∧ ∀ j, j < k → ¬ (l.getD j .empty).toList = n.toList) ∧ V w0 W F) (fun (k : Nat) => l.length - k) (0) uK lU ⟨⟨by omega, fun j h => by omega⟩, H⟩ ?_
 rintro k w1 ⟨⟨hk, hno⟩, HL⟩
 dsimp only [List.cons_append, List.nil_append]
 refine iR (Z (fZ O O) (qQ (bD O (fun h1 => ?_) (fun h1 => ?_))))
 ·(try simp only [aA] at h1)
  refine gG (aN (aY (bQ O (uZ O ?_))))
  have hkl : k < l.length := by omega
  refine aC (jR O O (bT O ?_))
  obtain ⟨bv, ov, cv, ev⟩ := Rd.rM (hr _ (HL)) (by omega)
  cases ev
  refine Z (dP jq nD O O (by omega)) ?_
  refine Z (Qm (fK (dA jS O) O (by first | exact Rd.ni (hr _ (HL)) (by omega) | exact Rd.yc (hr _ (HL)) (by omega) | exact Rd.yx (hr _ (HL)) (by omega))) (ZI (l := l) hkl)) ?_
  refine Z (dU O O) (jB O (fun h2 => ?_) (fun h2 => ?_))
  ·(try simp only [aA] at h2)
   have heq : n.toList = (l.getD k .empty).toList := h2
   refine bQ O (fB O (aT (aB (aB (aT (aB (dL results108 O ?_)))))))
   exact ⟨_, O, ⟨fun _ => ⟨k, hkl, heq.symm⟩, fun _ => by omega⟩, HL⟩
  ·(try simp only [aA] at h2)
   have hne : ¬ n.toList = (l.getD k .empty).toList := h2
   refine cZ (aK (aX (aC (Z (fJ O O (by omega)) (bT O (bW ?_))))))
   refine dV (k + 1) ?_ ?_ ?_ ?_
   ·exact lU
   ·exact uK
   ·(try dsimp only)
    first | done | exact ⟨⟨by omega, fun j h => if e : j = k then (by rw [e]; exact fun c => hne c.symm) else hno j (by omega)⟩, HL⟩
   ·(try dsimp only); omega
 ·(try simp only [aA] at h1)
  refine dO (aO (aO (bI (aX (jM O (dL results108 O ?_))))))
  exact ⟨_, rfl, ⟨fun h => (by omega), fun ⟨j, h1, h2⟩ => absurd h2 (hno j (by omega))⟩, HL⟩
theorem UG (H : V w0 w F) (hr : WI w0 F 1 v l.length (strs l)) : iE prog 49 #[v, .string n] w fun u w' => ∃ b, u = .bool b ∧ (b = true ↔ ∃ k, k < l.length ∧ (l.getD k .empty).toList = n.toList) ∧ V w0 w' F := by
  refine oV func49 ntmps49 ?_
  refine jQ O (bQ O (bT O (dS O func108 (XB H (fun W HW => hr _ (HW))) ?_)))
  rintro _ w1 ⟨i1, rfl, hi1, H1⟩
  refine Z (lV O O) (fB O (dL results49 O ?_))
  exact ⟨_, O, by rw [decide_eq_true_iff]; assumption, H1⟩
end
end
theorem rX {b : Bool} {P : Prop} [Decidable P] (hb : b = true) (h : P) : Value.bool b = Value.bool (decide P) := by rw [hb, decide_eq_true h]
theorem acp {b : Bool} {A B : Prop} [Decidable (A ∨ B)] (h1 : ¬ A) (hb : b = true ↔ B) : Value.bool b = Value.bool (decide (A ∨ B)) := congrArg Value.bool (by rw [Bool.eq_iff_iff, decide_eq_true_iff]; exact hb.trans ⟨.inr, fun h => h.resolve_left h1⟩)
theorem ZK {b : Bool} {A B C : Prop} [Decidable (A ∨ B ∨ C)] (h1 : ¬ A) (h2 : ¬ B) (hb : b = true ↔ C) : Value.bool b = Value.bool (decide (A ∨ B ∨ C)) := congrArg Value.bool (by rw [Bool.eq_iff_iff, decide_eq_true_iff]; exact hb.trans ⟨fun h => .inr (.inr h), fun h => (h.resolve_left h1).resolve_left h2⟩)
section
variable {w0 w : World} {F : HP} {v u : Value} {n : ByteArray} {keys : List Int}
theorem FT (H : V w0 w F) (hr : jF w0 F .i32 v keys) : iE prog 16 #[.string n, v] w fun u w' => u = .int .i64 (nM n keys) ∧ V w0 w' F := by
 have Ym : keys.length ≤ 9223372036854775807 := by have := (hr _ H).open; obtain ⟨a, c, e, h3, h4, _⟩ := this; omega
 refine oV func16 ntmps16 ?_
 refine jQ O (aN (iR (dS O func19 (UF H) ?_)))
 rintro u1 w1 H1
 refine bT O (dS O func49 (UG (l := PL) H1 (fun W HW => (HW).aS)) ?_)
 rintro _ w2 ⟨b2, rfl, hb2, H2⟩
 have Tt := H2.right
 refine Z (lJ O) (jB O (fun h1 => ?_) (fun h1 => ?_))
 ·(try simp only [aA] at h1)
  have hkn : ¬ AU n := fun hc => by have h9 := hb2.2 hc; rw [h1] at h9; exact absurd h9 (by decide)
  refine jM O (aB (dL results16 O ?_))
  exact ⟨by rw [XA hkn], Tt⟩
 ·(try simp only [aA] at h1)
  have hkn : AU n := hb2.1 h1
  refine gG (aN (bQ O (Z (iM (hr _ (Tt)) aj O) (Z (dX O O) (jB O (fun h2 => ?_) (fun h2 => ?_))))))
  ·(try simp only [aA] at h2)
   refine jM O (aB (dL results16 O ?_))
   exact ⟨by rw [ZJ hkn (by omega)], Tt⟩
  ·(try simp only [aA] at h2)
   refine gG (aN ?_)
   have hk0 : ¬ keys.length = 0 := by omega
   refine aC (fG O ?_)
   refine kT [] (fun (m : Bool) => [(5, .bool m)]) (fun (m : Bool) W => (m = true ↔ Bq n keys) ∧ V w0 W F) (Sub.nil _) ?_ ?_
   ·rintro m w4 ⟨hm, HM⟩
    dsimp only [List.cons_append, List.nil_append]
    refine aN (bQ O (jB O (fun h3 => ?_) (fun h3 => ?_)))
    ·(try simp only [aA] at h3)
     have hmt := hm.1 h3
     refine jM O (aB (dL results16 O ?_))
     exact ⟨by rw [Ry hkn hmt], HM⟩
    ·(try simp only [aA] at h3)
     have hmt : ¬ Bq n keys := fun hc => by have h9 := h3; rw [hm.2 hc] at h9; exact absurd h9 (by decide)
     refine gG (jM O (dL results16 O ?_))
     exact ⟨by rw [DU hkn hk0 hmt], HM⟩
   ·skip
    refine bQ O (iJ (aY (iR (Z (dU O O) (fG O (bD O (fun h4 => ?_) (fun h4 => ?_)))))))
    ·(try simp only [aA] at h4)
     have hmv : n.toList = vW.toList := h4
     refine aC (bT O (Z (iM (hr _ (Tt)) aj O) (Z (dX O O) (jG O (fun h5 => ?_) (fun h5 => ?_)))))
     ·(try simp only [aA] at h5)
      refine bg (bT O (bg ?_))
      obtain ⟨bv, ov, cv, ev⟩ := gJ.rM (hr _ (Tt)) (by omega)
      cases ev
      refine Z (dP aj bZ O O (by omega)) (bg ?_)
      refine Z (fK (dA bG O) O (by first | exact gJ.ni (hr _ (Tt)) (by omega) | exact gJ.yc (hr _ (Tt)) (by omega) | exact gJ.yx (hr _ (Tt)) (by omega))) ?_
      refine bg (dS O func50 (BZ (s := Ir) (by decide)) ?_)
      rintro _ _ ⟨rfl, rfl⟩
      refine iU O O (iK O (bW (aK ?_)))
      refine dw (_) lU (Sub.nil _) (by (try dsimp only); exact ⟨by first | exact decide_eq_true_iff.trans ⟨fun h => (iF hmv).2 ⟨by omega, h⟩, fun h => ((iF hmv).1 h).2⟩ | exact iff_of_false (by decide) fun h => absurd ((iF hmv).1 h).1 (by omega) | exact beq_iff_eq.trans ⟨fun h => (lu hmv hch).2 (by omega), fun h => by have := (lu hmv hch).1 h; omega⟩ | exact iff_of_true O ((fD hmv hch hop).2 ⟨by assumption, .inl (by show (mX (List.drop (Int.toNat 1) keys)).length = 0; omega)⟩) | exact decide_eq_true_iff.trans ⟨fun h => (fD hmv hch hop).2 ⟨by assumption, .inr ⟨by show (mX (List.drop (Int.toNat 1) keys)).length = 1; omega, h⟩⟩, fun h => ((fD hmv hch hop).1 h).2.elim (fun c => absurd c (by show ¬ (mX (List.drop (Int.toNat 1) keys)).length = 0; omega)) (fun c => c.2)⟩ | exact iff_of_false (by decide) fun h => ((fD hmv hch hop).1 h).2.elim (fun c => absurd c (by show ¬ (mX (List.drop (Int.toNat 1) keys)).length = 0; omega)) (fun c => absurd c.1 (by show ¬ (mX (List.drop (Int.toNat 1) keys)).length = 1; omega)) | exact iff_of_false (by decide) fun h => absurd ((fD hmv hch hop).1 h).1 (by assumption) | exact iff_of_false (by decide) (uz hmv hch hop), Tt⟩)
     ·(try simp only [aA] at h5)
      refine bF (bF (bF (bF (iH O O (iK O (bW (aK ?_)))))))
      refine dw (_) lU (Sub.nil _) (by (try dsimp only); exact ⟨by first | exact decide_eq_true_iff.trans ⟨fun h => (iF hmv).2 ⟨by omega, h⟩, fun h => ((iF hmv).1 h).2⟩ | exact iff_of_false (by decide) fun h => absurd ((iF hmv).1 h).1 (by omega) | exact beq_iff_eq.trans ⟨fun h => (lu hmv hch).2 (by omega), fun h => by have := (lu hmv hch).1 h; omega⟩ | exact iff_of_true O ((fD hmv hch hop).2 ⟨by assumption, .inl (by show (mX (List.drop (Int.toNat 1) keys)).length = 0; omega)⟩) | exact decide_eq_true_iff.trans ⟨fun h => (fD hmv hch hop).2 ⟨by assumption, .inr ⟨by show (mX (List.drop (Int.toNat 1) keys)).length = 1; omega, h⟩⟩, fun h => ((fD hmv hch hop).1 h).2.elim (fun c => absurd c (by show ¬ (mX (List.drop (Int.toNat 1) keys)).length = 0; omega)) (fun c => c.2)⟩ | exact iff_of_false (by decide) fun h => ((fD hmv hch hop).1 h).2.elim (fun c => absurd c (by show ¬ (mX (List.drop (Int.toNat 1) keys)).length = 0; omega)) (fun c => absurd c.1 (by show ¬ (mX (List.drop (Int.toNat 1) keys)).length = 1; omega)) | exact iff_of_false (by decide) fun h => absurd ((fD hmv hch hop).1 h).1 (by assumption) | exact iff_of_false (by decide) (uz hmv hch hop), Tt⟩)
    ·(try simp only [aA] at h4)
     have hmv : ¬ n.toList = vW.toList := h4
     refine kT [(1, _), (5, _), (15, _)] (fun (_ : Unit) => [(27, .bool (decide (n.toList = FP.toList ∨ n.toList = Ip.toList)))]) (fun (_ : Unit) W => V w0 W F) uK ?_ ?_
     ·rintro _ w6 HJ
      dsimp only [List.cons_append, List.nil_append]
      refine bD O (fun h6 => ?_) (fun h6 => ?_)
      ·(try simp only [aA] at h6)
       have hch := h6
       refine aC (bT O (Z (iM (hr _ (HJ)) aj O) (Z (dX O O) (iK O (bW (aK ?_))))))
       refine dw (_) lU (Sub.nil _) (by (try dsimp only); exact ⟨by first | exact decide_eq_true_iff.trans ⟨fun h => (iF hmv).2 ⟨by omega, h⟩, fun h => ((iF hmv).1 h).2⟩ | exact iff_of_false (by decide) fun h => absurd ((iF hmv).1 h).1 (by omega) | exact beq_iff_eq.trans ⟨fun h => (lu hmv hch).2 (by omega), fun h => by have := (lu hmv hch).1 h; omega⟩ | exact iff_of_true O ((fD hmv hch hop).2 ⟨by assumption, .inl (by show (mX (List.drop (Int.toNat 1) keys)).length = 0; omega)⟩) | exact decide_eq_true_iff.trans ⟨fun h => (fD hmv hch hop).2 ⟨by assumption, .inr ⟨by show (mX (List.drop (Int.toNat 1) keys)).length = 1; omega, h⟩⟩, fun h => ((fD hmv hch hop).1 h).2.elim (fun c => absurd c (by show ¬ (mX (List.drop (Int.toNat 1) keys)).length = 0; omega)) (fun c => c.2)⟩ | exact iff_of_false (by decide) fun h => ((fD hmv hch hop).1 h).2.elim (fun c => absurd c (by show ¬ (mX (List.drop (Int.toNat 1) keys)).length = 0; omega)) (fun c => absurd c.1 (by show ¬ (mX (List.drop (Int.toNat 1) keys)).length = 1; omega)) | exact iff_of_false (by decide) fun h => absurd ((fD hmv hch hop).1 h).1 (by assumption) | exact iff_of_false (by decide) (uz hmv hch hop), HJ⟩)
      ·(try simp only [aA] at h6)
       have hch := h6
       refine kT [(1, _), (5, _)] (fun (_ : Unit) => [(33, .bool (decide (n.toList = Cb.toList ∨ n.toList = FQ.toList ∨ n.toList = Iq.toList)))]) (fun (_ : Unit) W => V w0 W F) uJ ?_ ?_
       ·rintro _ w7 HK
        dsimp only [List.cons_append, List.nil_append]
        refine bD O (fun h7 => ?_) (fun h7 => ?_)
        ·(try simp only [aA] at h7)
         have hop := h7
         refine bQ O ?_
         obtain ⟨bv, ov, cv, ev⟩ := gJ.rM (hr _ (HK)) (by omega)
         cases ev
         refine Z (dP aj bZ O O (by omega)) ?_
         refine Z (fK (dA bG O) O (by first | exact gJ.ni (hr _ (HK)) (by omega) | exact gJ.yc (hr _ (HK)) (by omega) | exact gJ.yx (hr _ (HK)) (by omega))) ?_
         refine dS O func50 (BZ (s := adp) (by decide)) ?_
         rintro _ _ ⟨rfl, rfl⟩
         refine jB O (fun h8 => ?_) (fun h8 => ?_)
         ·(try simp only [aA] at h8)
          refine bQ O (Z (zn (hr _ (HK)) aj bZ O O O (by omega)) ?_)
          refine dS O func51 (PK HK (fun W HW => gJ.from (hr _ (HW)) (by omega))) ?_
          rintro _ w9 ⟨kv9, rfl, XC, H9⟩
          refine bT O (uH O O (uH O O (iK O (fG O (aC (bT O (Z (iM (XC _ (H9)) aj O) (Z (dX O O) (jG O (fun h9 => ?_) (fun h9 => ?_))))))))))
          ·(try simp only [aA] at h9)
           refine bF (bF (bF (bF (ng (ng (ng (ng (bF (iU O O (iK O (bW (aK ?_))))))))))))
           refine dw (_) lU (Sub.nil _) (by (try dsimp only); exact ⟨by first | exact decide_eq_true_iff.trans ⟨fun h => (iF hmv).2 ⟨by omega, h⟩, fun h => ((iF hmv).1 h).2⟩ | exact iff_of_false (by decide) fun h => absurd ((iF hmv).1 h).1 (by omega) | exact beq_iff_eq.trans ⟨fun h => (lu hmv hch).2 (by omega), fun h => by have := (lu hmv hch).1 h; omega⟩ | exact iff_of_true O ((fD hmv hch hop).2 ⟨by assumption, .inl (by show (mX (List.drop (Int.toNat 1) keys)).length = 0; omega)⟩) | exact decide_eq_true_iff.trans ⟨fun h => (fD hmv hch hop).2 ⟨by assumption, .inr ⟨by show (mX (List.drop (Int.toNat 1) keys)).length = 1; omega, h⟩⟩, fun h => ((fD hmv hch hop).1 h).2.elim (fun c => absurd c (by show ¬ (mX (List.drop (Int.toNat 1) keys)).length = 0; omega)) (fun c => c.2)⟩ | exact iff_of_false (by decide) fun h => ((fD hmv hch hop).1 h).2.elim (fun c => absurd c (by show ¬ (mX (List.drop (Int.toNat 1) keys)).length = 0; omega)) (fun c => absurd c.1 (by show ¬ (mX (List.drop (Int.toNat 1) keys)).length = 1; omega)) | exact iff_of_false (by decide) fun h => absurd ((fD hmv hch hop).1 h).1 (by assumption) | exact iff_of_false (by decide) (uz hmv hch hop), H9⟩)
          ·(try simp only [aA] at h9)
           refine bg (bT O (bg (Z (iM (XC _ (H9)) aj O) (bg (Z (dX O O) (bg (jG O (fun h10 => ?_) (fun h10 => ?_))))))))
           ·(try simp only [aA] at h10)
            refine bg (bT O (bg ?_))
            obtain ⟨ahu, ahv, ahw, agi⟩ := gJ.rM (XC _ (H9)) (by omega)
            cases agi
            refine Z (dP aj bZ O O (by omega)) (bg ?_)
            refine Z (fK (dA bG O) O (by first | exact gJ.ni (XC _ (H9)) (by omega) | exact gJ.yc (XC _ (H9)) (by omega) | exact gJ.yx (XC _ (H9)) (by omega))) ?_
            refine bg (dS O func50 (BZ (s := Ir) (by decide)) ?_)
            rintro _ _ ⟨rfl, rfl⟩
            refine bg (iU O O (iH O O (iK O (bW (aK ?_)))))
            refine dw (_) lU (Sub.nil _) (by (try dsimp only); exact ⟨by first | exact decide_eq_true_iff.trans ⟨fun h => (iF hmv).2 ⟨by omega, h⟩, fun h => ((iF hmv).1 h).2⟩ | exact iff_of_false (by decide) fun h => absurd ((iF hmv).1 h).1 (by omega) | exact beq_iff_eq.trans ⟨fun h => (lu hmv hch).2 (by omega), fun h => by have := (lu hmv hch).1 h; omega⟩ | exact iff_of_true O ((fD hmv hch hop).2 ⟨by assumption, .inl (by show (mX (List.drop (Int.toNat 1) keys)).length = 0; omega)⟩) | exact decide_eq_true_iff.trans ⟨fun h => (fD hmv hch hop).2 ⟨by assumption, .inr ⟨by show (mX (List.drop (Int.toNat 1) keys)).length = 1; omega, h⟩⟩, fun h => ((fD hmv hch hop).1 h).2.elim (fun c => absurd c (by show ¬ (mX (List.drop (Int.toNat 1) keys)).length = 0; omega)) (fun c => c.2)⟩ | exact iff_of_false (by decide) fun h => ((fD hmv hch hop).1 h).2.elim (fun c => absurd c (by show ¬ (mX (List.drop (Int.toNat 1) keys)).length = 0; omega)) (fun c => absurd c.1 (by show ¬ (mX (List.drop (Int.toNat 1) keys)).length = 1; omega)) | exact iff_of_false (by decide) fun h => absurd ((fD hmv hch hop).1 h).1 (by assumption) | exact iff_of_false (by decide) (uz hmv hch hop), H9⟩)
           ·(try simp only [aA] at h10)
            refine bF (bF (bF (bF (bg (iH O O (iH O O (iK O (bW (aK ?_)))))))))
            refine dw (_) lU (Sub.nil _) (by (try dsimp only); exact ⟨by first | exact decide_eq_true_iff.trans ⟨fun h => (iF hmv).2 ⟨by omega, h⟩, fun h => ((iF hmv).1 h).2⟩ | exact iff_of_false (by decide) fun h => absurd ((iF hmv).1 h).1 (by omega) | exact beq_iff_eq.trans ⟨fun h => (lu hmv hch).2 (by omega), fun h => by have := (lu hmv hch).1 h; omega⟩ | exact iff_of_true O ((fD hmv hch hop).2 ⟨by assumption, .inl (by show (mX (List.drop (Int.toNat 1) keys)).length = 0; omega)⟩) | exact decide_eq_true_iff.trans ⟨fun h => (fD hmv hch hop).2 ⟨by assumption, .inr ⟨by show (mX (List.drop (Int.toNat 1) keys)).length = 1; omega, h⟩⟩, fun h => ((fD hmv hch hop).1 h).2.elim (fun c => absurd c (by show ¬ (mX (List.drop (Int.toNat 1) keys)).length = 0; omega)) (fun c => c.2)⟩ | exact iff_of_false (by decide) fun h => ((fD hmv hch hop).1 h).2.elim (fun c => absurd c (by show ¬ (mX (List.drop (Int.toNat 1) keys)).length = 0; omega)) (fun c => absurd c.1 (by show ¬ (mX (List.drop (Int.toNat 1) keys)).length = 1; omega)) | exact iff_of_false (by decide) fun h => absurd ((fD hmv hch hop).1 h).1 (by assumption) | exact iff_of_false (by decide) (uz hmv hch hop), H9⟩)
         ·(try simp only [aA] at h8)
          refine cZ (aK ?_)
          refine dw (_) lU (Sub.nil _) (by (try dsimp only); exact ⟨by first | exact decide_eq_true_iff.trans ⟨fun h => (iF hmv).2 ⟨by omega, h⟩, fun h => ((iF hmv).1 h).2⟩ | exact iff_of_false (by decide) fun h => absurd ((iF hmv).1 h).1 (by omega) | exact beq_iff_eq.trans ⟨fun h => (lu hmv hch).2 (by omega), fun h => by have := (lu hmv hch).1 h; omega⟩ | exact iff_of_true O ((fD hmv hch hop).2 ⟨by assumption, .inl (by show (mX (List.drop (Int.toNat 1) keys)).length = 0; omega)⟩) | exact decide_eq_true_iff.trans ⟨fun h => (fD hmv hch hop).2 ⟨by assumption, .inr ⟨by show (mX (List.drop (Int.toNat 1) keys)).length = 1; omega, h⟩⟩, fun h => ((fD hmv hch hop).1 h).2.elim (fun c => absurd c (by show ¬ (mX (List.drop (Int.toNat 1) keys)).length = 0; omega)) (fun c => c.2)⟩ | exact iff_of_false (by decide) fun h => ((fD hmv hch hop).1 h).2.elim (fun c => absurd c (by show ¬ (mX (List.drop (Int.toNat 1) keys)).length = 0; omega)) (fun c => absurd c.1 (by show ¬ (mX (List.drop (Int.toNat 1) keys)).length = 1; omega)) | exact iff_of_false (by decide) fun h => absurd ((fD hmv hch hop).1 h).1 (by assumption) | exact iff_of_false (by decide) (uz hmv hch hop), HK⟩)
        ·(try simp only [aA] at h7)
         have hop := h7
         refine cZ (aK ?_)
         refine dw (_) lU (Sub.nil _) (by (try dsimp only); exact ⟨by first | exact decide_eq_true_iff.trans ⟨fun h => (iF hmv).2 ⟨by omega, h⟩, fun h => ((iF hmv).1 h).2⟩ | exact iff_of_false (by decide) fun h => absurd ((iF hmv).1 h).1 (by omega) | exact beq_iff_eq.trans ⟨fun h => (lu hmv hch).2 (by omega), fun h => by have := (lu hmv hch).1 h; omega⟩ | exact iff_of_true O ((fD hmv hch hop).2 ⟨by assumption, .inl (by show (mX (List.drop (Int.toNat 1) keys)).length = 0; omega)⟩) | exact decide_eq_true_iff.trans ⟨fun h => (fD hmv hch hop).2 ⟨by assumption, .inr ⟨by show (mX (List.drop (Int.toNat 1) keys)).length = 1; omega, h⟩⟩, fun h => ((fD hmv hch hop).1 h).2.elim (fun c => absurd c (by show ¬ (mX (List.drop (Int.toNat 1) keys)).length = 0; omega)) (fun c => c.2)⟩ | exact iff_of_false (by decide) fun h => ((fD hmv hch hop).1 h).2.elim (fun c => absurd c (by show ¬ (mX (List.drop (Int.toNat 1) keys)).length = 0; omega)) (fun c => absurd c.1 (by show ¬ (mX (List.drop (Int.toNat 1) keys)).length = 1; omega)) | exact iff_of_false (by decide) fun h => absurd ((fD hmv hch hop).1 h).1 (by assumption) | exact iff_of_false (by decide) (uz hmv hch hop), HK⟩)
       ·skip
        refine iR (Z (dU O O) (fG O (bD O (fun h11 => ?_) (fun h11 => ?_))))
        ·(try simp only [aA] at h11)
         have hop := h11
         refine cZ ?_
         refine dw (()) ?_ ?_ ?_
         ·exact (Sub.jv O (by first | exact rX (beq_iff_eq.2 (by assumption)) (.inl (by assumption)) | exact rX (beq_iff_eq.2 (by assumption)) (.inr (.inl (by assumption))) | exact ZK (by assumption) (by assumption) beq_iff_eq) (Sub.nil _))
         ·exact uJ
         ·(try dsimp only)
          first | done | exact HJ
        ·(try simp only [aA] at h11)
         have hop := h11
         refine iR (Z (dU O O) (fG O (bD O (fun h12 => ?_) (fun h12 => ?_))))
         ·(try simp only [aA] at h12)
          have hop := h12
          refine cZ ?_
          refine dw (()) ?_ ?_ ?_
          ·exact (Sub.jv O (by first | exact rX (beq_iff_eq.2 (by assumption)) (.inl (by assumption)) | exact rX (beq_iff_eq.2 (by assumption)) (.inr (.inl (by assumption))) | exact ZK (by assumption) (by assumption) beq_iff_eq) (Sub.nil _))
          ·exact uJ
          ·(try dsimp only)
           first | done | exact HJ
         ·(try simp only [aA] at h12)
          have hop := h12
          refine aC (Z (dU O O) (iK O (bW ?_)))
          refine dw (()) ?_ ?_ ?_
          ·exact (Sub.jv O (by first | exact rX (beq_iff_eq.2 (by assumption)) (.inl (by assumption)) | exact rX (beq_iff_eq.2 (by assumption)) (.inr (.inl (by assumption))) | exact ZK (by assumption) (by assumption) beq_iff_eq) (Sub.nil _))
          ·exact uJ
          ·(try dsimp only)
           first | done | exact HJ
     ·skip
      refine iR (Z (dU O O) (fG O (bD O (fun h13 => ?_) (fun h13 => ?_))))
      ·(try simp only [aA] at h13)
       have hch := h13
       refine cZ ?_
       refine dw (()) ?_ ?_ ?_
       ·exact (Sub.jv O (by first | exact rX (beq_iff_eq.2 (by assumption)) (.inl (by assumption)) | exact acp (by assumption) beq_iff_eq) (Sub.nil _))
       ·exact uK
       ·(try dsimp only)
        first | done | exact Tt
      ·(try simp only [aA] at h13)
       have hch := h13
       refine aC (Z (dU O O) (iK O (bW ?_)))
       refine dw (()) ?_ ?_ ?_
       ·exact (Sub.jv O (by first | exact rX (beq_iff_eq.2 (by assumption)) (.inl (by assumption)) | exact acp (by assumption) beq_iff_eq) (Sub.nil _))
       ·exact uK
       ·(try dsimp only)
        first | done | exact Tt
end
structure VM where
  marks : Int → Option Int
  fk : Int
  fc : Int
  name : ByteArray
  keys : List Int
  n : Int
  typed : List Int
  frm : Int
def zJ (n : ByteArray) : Prop := n.toList = FQ.toList ∨ n.toList = ZE.toList ∨ n.toList = ZF.toList ∨ n.toList = ZG.toList
def rY (n : ByteArray) : Prop := n.toList = ZC.toList ∨ n.toList = FP.toList ∨ n.toList = Fa.toList ∨ n.toList = Cb.toList ∨ n.toList = GU.toList
instance (n : ByteArray) : Decidable (zJ n) := by unfold zJ; infer_instance
instance (n : ByteArray) : Decidable (rY n) := by unfold rY; infer_instance
def ZL (M : VM) : Prop := M.keys.length * 4 ≤ 140737488355328 ∧ M.typed.length ≤ 1024 ∧ (M.name.toList = [] ∨ ((zJ M.name ∨ rY M.name) ∧ nM M.name M.keys = 0 ∧ 1 ≤ M.n ∧ M.n ≤ 1000000))
def DV (m : Int → Option Int) : Int → Option Value := fun k => (m k).map (.int .i64)
def oQ (m : Nat) (M : VM) : HP := wE fun (x : Nat × Value × Value) => fact (ZL M) • dW m (.cells #[.map (some x.1), .int .i32 M.fk, .int .i32 M.fc, .string M.name, x.2.1, .int .i64 M.n, x.2.2, .int .i64 M.frm] 119 (0, 0)) • gY Xm x.1 (DV M.marks) • oP .i32 x.2.1 M.keys • oP .i32 x.2.2 M.typed
def VM.new : VM := ⟨fun _ => none, 0, 0, .empty, [], 0, [], -1⟩
theorem VM.PE : ZL VM.new := ⟨by decide, by decide, .inl (by rw [ByteArray.toList_eq]; rfl)⟩
section
variable {w0 w : World} {F : HP} {m : Nat} {M : VM}
theorem V.vm (H : V w0 w (oQ m M • F)) : ∃ mb kv tv, ZL M ∧ V w0 w (dW m (.cells #[.map (some mb), .int .i32 M.fk, .int .i32 M.fc, .string M.name, kv, .int .i64 M.n, tv, .int .i64 M.frm] 119 (0, 0)) • gY Xm mb (DV M.marks) • oP .i32 kv M.keys • oP .i32 tv M.typed • F) := by
  obtain ⟨⟨mb, kv, tv⟩, H⟩ := H.nX
  obtain ⟨h, H⟩ := H.flat.fact
  exact ⟨mb, kv, tv, h, H.of_eq (by simp only [dG])⟩
theorem V.Fb {mb : Nat} {kv tv : Value} (h : ZL M) (H : V w0 w (dW m (.cells #[.map (some mb), .int .i32 M.fk, .int .i32 M.fc, .string M.name, kv, .int .i64 M.n, tv, .int .i64 M.frm] 119 (0, 0)) • gY Xm mb (DV M.marks) • oP .i32 kv M.keys • oP .i32 tv M.typed • F)) : V w0 w (oQ m M • F) :=
  V.jw (mb, kv, tv) (V.deep (V.lK h (H.of_eq (by simp only [dG]))))
theorem Le (H : V w0 w F) : V w0 w (oP .i32 (.slice none 0 0) [] • F) := V.lN (e := 21) (k := .i32) (l := []) (H.jk none)
theorem V.adq {mb : Nat} {kv : Value} (h : ZL M) (ht : M.typed = []) (H : V w0 w (dW m (.cells #[.map (some mb), .int .i32 M.fk, .int .i32 M.fc, .string M.name, kv, .int .i64 M.n, .slice none 0 0, .int .i64 M.frm] 119 (0, 0)) • gY Xm mb (DV M.marks) • oP .i32 kv M.keys • F)) : V w0 w (oQ m M • F) :=
  V.Fb h (by rw [ht]; exact (Le H).of_eq (by ac_rfl))
theorem DW (H : V w0 w (oQ m M • F)) : iE prog 69 #[.pointer (some ⟨m, 0, none⟩)] w fun v w' => v = .bool false ∧ w = w' := by
 refine iZ func69 ntmps69 ?_
 refine jQ O (aN ?_)
 obtain ⟨Rz, RD, RF, zK, zX⟩ := (H).vm
 refine aC (bT O (Z (jy jJ O O) (Yh O (fun h1 => ?_))))
 (try simp only [aA] at h1)
 refine bg (bT O (bg (dK O (bg (bJ 0 gZ O sizeOf113 O (bg (fM mF O (zX).get.2 O (bg (Z (Xu mF O O) (iH O O (fB O (dL results69 O ?_))))))))))))
 exact ⟨O, O⟩
theorem FU (H : V w0 w F) : iE prog 22 #[] w fun v w' => ∃ m, v = .pointer (some ⟨m, 0, none⟩) ∧ V w0 w' (oQ m VM.new • F) := by
  refine WM func22 ntmps22 ?_
  refine jQ O (iR (kD (kS (zB .i32) H) ?_))
  rintro _ w1 ⟨b1, rfl, H1⟩
  refine Z (fC (zl := [.map none, .int .i32 0, .int .i32 0, .string .empty, .slice none 0 0, .int .i64 0, .slice none 0 0, .int .i64 0]) (pl := [(0, 1), (1, 2), (3, 4), (7, 1)]) [_, _, _, _, _, _, _, _] gZ zeroValue119 O (fun w => by kernel_rfl) O (.on (.zero (zs := [.int .i32 0, .int .i32 0]) O (.zero (zs := [.string .empty, .slice none 0 0, .int .i64 0, .slice none 0 0]) O (.on .nil)))) O) ?_
  refine kD (jL (l := [_, _, _, _, _, _, _, _]) H1 O O) ?_
  rintro _ w2 ⟨b2, rfl, H2⟩
  refine fB O (dL results22 O ?_)
  exact ⟨_, O, V.Fb VM.PE ((Le (Le H2)).of_eq (by ac_rfl))⟩
def VM.at (M : VM) (r : Int) : Int := (M.marks r).getD (-1)
theorem RG {r : Int} (H : V w0 w (oQ m M • F)) : iE prog 183 #[.pointer (some ⟨m, 0, none⟩), .int .i32 r] w fun v w' => v = .int .i64 (M.at r) ∧ V w0 w' (oQ m M • F) := by
  refine oV func183 ntmps183 ?_
  refine jQ O (aN (bQ O (dS O func69 (DW H) ?_)))
  rintro _ _ ⟨rfl, rfl⟩
  refine iJ (qo (gG (aN (aN ?_))))
  obtain ⟨Rz, RD, RF, zK, zX⟩ := (H).vm
  refine aC (nG O O (bJ 0 gZ O sizeOf113 O (fM mF O (zX).get.2 O (bT O (Z (DK (zX.f2) mF bG zeroValue3 O O) (bT O (uH O O (uH O O (iK O (fG O (bQ O (jB O (fun h1 => ?_) (fun h1 => ?_)))))))))))))
  · (try simp only [aA] at h1)
    try (exfalso; first | contradiction | omega)
    all_goals
      obtain ⟨z, hz⟩ := Option.isSome_iff_exists.1 h1
      obtain ⟨a, ha⟩ : ∃ a, M.marks r = some a := by cases hq : M.marks r with | none => (unfold DV at hz; rw [hq] at hz; cases hz) | some a => exact ⟨a, rfl⟩
      refine bQ O (fB O (aB (dL results183 O ?_)))
      have QL := zX.f4.f4.f4.f4
      have Qi := V.Fb (M := M) zK QL
      exact ⟨by unfold VM.at; rw [ha]; first | rfl | (unfold DV; rw [ha]; rfl), Qi⟩
  · (try simp only [aA] at h1)
    try (exfalso; first | contradiction | omega)
    all_goals
      have ha : M.marks r = none := by cases hq : M.marks r with | none => rfl | some a => (have h9 := h1; unfold DV at h9; rw [hq] at h9; cases h9)
      refine gG (jM O (dL results183 O ?_))
      have Y4 := zX.f4.f4.f4.f4
      have Y5 := V.Fb (M := M) zK Y4
      exact ⟨by unfold VM.at; rw [ha]; first | rfl | (unfold DV; rw [ha]; rfl), Y5⟩
theorem PN (H : V w0 w (oQ m M • F)) : iE prog 38 #[.pointer (some ⟨m, 0, none⟩)] w fun v w' => ∃ c, v = .pointer (some ⟨c, 0, none⟩) ∧ V w0 w' (oQ c M • oQ m M • F) := by
 refine iZ func38 ntmps38 ?_
 refine jQ O (aN (bQ O (dS O func69 (DW H) ?_)))
 rintro _ _ ⟨rfl, rfl⟩
 refine iJ (qo (gG (aN ?_)))
 obtain ⟨Rz, RD, RF, zK, zX⟩ := (H).vm
 have hvk := zK.1
 have hvt := zK.2.1
 refine aC (nG O O (Z (dM gZ O sizeOf119 O O (zX).get.2) (kD (iC (l := [_, _, _, _, _, _, _, _]) zX zeroValue119 O) ?_)))
 rintro _ w3 ⟨b3, rfl, H3⟩
 refine aJ (dB 0 (l' := [_, _, _, _, _, _, _, _]) (us := [_, _, _, _, _, _, _, _]) H3 sizeOf119 O O O (aG (aG (aG (aG (aZ (by first | rfl | exact Rd.one ((H3.f4).kR)) (aG (aZ (by first | rfl | exact Rd.one ((H3.f5).kR)) (aG bU)))))))) O O) ?_
 rintro _ w4 H4
 refine zk7 (kD (kS (zB .i32) H4) ?_)
 rintro _ w5 ⟨b5, rfl, H5⟩
 refine bJ 0 gZ O sizeOf113 O (aJ (fP 0 (l' := [_, _, _, _, _, _, _, _]) H5.f2 sizeOf113 O O (by first | rfl | assumption) O O) ?_)
 rintro _ w6 H6
 refine qQ (bQ O (dK O (bJ 0 gZ O sizeOf113 O (fM mF O (H6.f3).get.2 O (kD (DL H6.f4 mF O) ?_)))))
 rintro _ w7 ⟨it7, mi, rfl, H7⟩
 refine iJ (aY ?_)
 obtain ⟨R8, hR8, HR8⟩ := V.JJ (H7.f2.f3.f3)
 have HX0 := HR8
 rw [← Ri (DV M.marks)] at HX0
 refine gW [(0, _), (3, _), (17, _)] (fun (⟨S, n⟩ : List Int × Nat) => []) (fun (⟨S, n⟩ : List Int × Nat) W => V w0 W (EX Xm Rz it7 (DV M.marks) S n • gY Xm b5 (Px (DV M.marks) S) • dW b3 (.cells #[.map (some b5), .int .i32 M.fk, .int .i32 M.fc, .string M.name, RD, .int .i64 M.n, RF, .int .i64 M.frm] 119 (0, 0)) • R8)) (fun (⟨S, n⟩ : List Int × Nat) => n) (([], _)) uK (Sub.nil _) HX0 ?_
 rintro ⟨S, n⟩ w9 HL
 dsimp only [List.cons_append, List.nil_append]
 refine iR (kD (FI HL O) ?_)
 rintro _ w10 ⟨ox, Sx, mx, rfl, hNx, pR⟩
 refine Z (Zh O) (qQ (bD O (fun h1 => ?_) (fun h1 => ?_)))
 ·(try simp only [aA] at h1)
  try (exfalso; first | contradiction | omega)
  all_goals
   obtain ⟨⟨a, u⟩, rfl⟩ := Option.isSome_iff_exists.1 h1
   obtain ⟨ha, hns, hlt, rfl⟩ := hNx
   refine gG (aY (iR ?_))
   refine Z (Pq (pR) (by assumption) O) ?_
   refine uH O O (uH O O (iK O (fG O (aC (bJ 0 gZ O sizeOf113 O (fM mF O (pR.f3).get.2 O (jR O O (aJ (xK pR.f2 mF bG O O O) ?_))))))))
   rintro _ Fv tq
   refine bW (aK ?_)
   have hres := Oa (S := S) ha
   refine dV ((S ++ [a], mx)) ?_ ?_ ?_ ?_
   ·exact (Sub.nil _)
   ·exact uK
   ·(try dsimp only)
    first | done | exact (by rw [hres]; exact tq.f3.f2.f3)
   ·(try dsimp only); omega
 ·(try simp only [aA] at h1)
  try (exfalso; first | contradiction | omega)
  all_goals
   obtain rfl := Ij (o := ox) (by simp [h1])
   obtain ⟨rfl, rfl, hall⟩ := hNx
   refine dO (aO ?_)
   have HX := pR.f3.f2.f3
   rw [Rj hall] at HX
   have Pz := HX.f2
   have PD := Pz.Ii
   subst hR8
   refine aO (bI (aX (aN ?_)))
   have acq := PD.drew
   have zL := V.kp (acq.f6.f6.f6.f6.f6.f6)
   refine yH [4, 10] zL O (iQ 0 O zL O (jU 1 O zL O (gU 2 O zL 3 gZ O sizeOf117 O (gU 3 O zL 1 underlying117 O dh O (jO 4 O zL (fun W hW => jV aj O ((Kp.h hW).f4).get.2 O) (iQ 6 O zL O (jU 7 O zL O (gU 8 O zL 3 gZ O sizeOf117 O (gU 9 O zL 3 underlying117 O dh O (jO 10 O zL (fun W hW => jV aj O ((Kp.h hW).f4).get.2 O) (mZ 5 O (xq O func71 (oK acq (fun W HW => (HW.f5).kR) (by omega))) ?_)))))))))))
   rintro u14 OQ AZ
   have Gv := V.kp (AZ.f7.f7.f7.f7.f7.f7.f7)
   refine eF Gv (fun W hW => (Kp.h hW).right.f6.f6.f6.f6.f6.f6) ?_
   refine mZ 11 O (xq O func71 (oK AZ (fun W HW => (HW.f7).kR) (by omega))) ?_
   rintro u15 QE zU
   have yC := V.kp (zU.f8.f8.f8.f8.f8.f8.f8.f8)
   refine iG yC (by kernel_rfl) ?_
   refine gU 12 O yC 3 gZ O sizeOf117 O (gU 13 O yC 1 underlying117 O dh O ?_)
   refine gB 14 O (by kernel_rfl) (fP 4 (l' := [_, _, _, _, _, _, _, _]) zU.f5 dh O O (by first | rfl | exact Rd.one ((zU.f2).aS)) O O) ?_
   rintro _ w16 vw
   have DJ := V.kp (vw.f8.f8.f8.f8.f8.f8.f8.f8)
   refine iG DJ (by kernel_rfl) ?_
   refine gU 15 O DJ 3 gZ O sizeOf117 O (gU 16 O DJ 3 underlying117 O dh O ?_)
   refine gB 17 O (by kernel_rfl) (fP 6 (l' := [_, _, _, _, _, _, _, _]) vw dh O O (by first | rfl | exact Rd.one ((vw.f2).aS)) O O) ?_
   rintro _ YI Dh
   have IZ := V.kp (Dh.f8.f8.f8.f8.f8.f8.f8.f8)
   refine iG IZ (by kernel_rfl) ?_
   refine qV (aX (jM O (dL results38 O ?_)))
   have adr := Dh.f3
   have ads := adr.lN
   have Zm := ads.f3
   have Uu := Zm.lN
   have ZM := Uu.f8.f8.f6.f8
   have ZN := V.Fb (M := M) zK ZM
   exact ⟨_, O, V.Fb zK ZN.f2.f3.f5.f5⟩
end
end Go.Proofs.YtpdeedplgmbopaaGreatDoor
end
