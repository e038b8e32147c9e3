import Derived.Test.YtpdeedplgmbopaaGreatDoorZ4
import Derived.Test.YtpdeedplgmbopaaGreatDoorZ12
import Derived.Test.YtpdeedplgmbopaaGreatDoorZ6
import Derived.Test.YtpdeedplgmbopaaGreatDoorZ9
import Derived.Test.YtpdeedplgmbopaaGreatDoorZ7
import Derived.Test.YtpdeedplgmbopaaGreatDoorZ3
import Derived.Test.YtpdeedplgmbopaaGreatDoorZ10
import Derived.Test.YtpdeedplgmbopaaGreatDoorZ11
import Derived.Test.YtpdeedplgmbopaaGreatDoorZ5
set_option linter.unusedSimpArgs false
set_option linter.unusedVariables false
/- Texts of mine, joined, their names in short: VC HistF RHist RWalk VNm VWa VM. -/
section
namespace Go.Proofs.YtpdeedplgmbopaaGreatDoor
open Go.RowKit
open _root_.Go.Proofs.Tryz
def EW (st : Int) (n i : Int) : Int := if st = 1 then n - i else i + 1
theorem KY {st n i : Int} (h : st = 1 ∨ st = -1) : EW st n (i + st) + 1 = EW st n i := by
  unfold EW; rcases h with rfl | rfl
  · rw [if_pos rfl, if_pos rfl]; omega
  · rw [if_neg (by decide), if_neg (by decide)]; omega
theorem Io {st n i : Int} (h : st = 1 ∨ st = -1) (h0 : 0 ≤ i) (h1 : i < n) : 0 < EW st n i ∧ EW st n i ≤ n := by
  unfold EW; rcases h with rfl | rfl
  · rw [if_pos rfl]; omega
  · rw [if_neg (by decide)]; omega
theorem Zk (key : Int) : sK key = 1 ∨ sK key = -1 := by unfold sK; split <;> simp
theorem Us {c m x : Int} (h : ¬ x = c) : EU c m x = some m := if_neg h
theorem Ut {c m x : Int} (h : x = c) (h2 : 0 < m - 1) : EU c m x = some (m - 1) := by unfold EU; rw [if_pos h, if_neg (by omega)]
theorem Xk {c m x : Int} (h : x = c) (h2 : m - 1 ≤ 0) : EU c m x = none := by unfold EU; rw [if_pos h, if_pos (by omega)]
theorem DL {l : List Int} {x n key c i : Int} (h : yu (sK key) (EU c) l n (x + sK key) = some i) : Ik l x key c n = (if key = 116 ∨ key = 84 then i - sK key else i, decide (0 < sK key), true) := by unfold Ik; rw [h]
theorem I9 {l : List Int} {x n key c : Int} (h : yu (sK key) (EU c) l n (x + sK key) = none) : Ik l x key c n = (0, false, false) := by unfold Ik; rw [h]
section
variable {w0 w : World} {F : HP} {v : Value} {l : List Int} {x n key c r : Int} {s : ByteArray}
theorem Uu (H : V w0 w F) (hr : jE w0 F .i32 v l) (hx : 0 ≤ x ∧ x ≤ l.length) (hn : 1 ≤ n) (hn2 : n ≤ 9223372036854775807) (hl9 : l.length ≤ 4611686018427387904) : iI prog 42 #[v, .int .i64 x, .int .i32 key, .int .i32 c, .int .i64 n] w fun u w' => u = Xj (Ik l x key c n) ∧ V w0 w' F := by
 have hst := Zk key
 refine afp func42 ntmps42 ?_
 refine iV (iJ O (iJ O (fP O (jR O ?_))))
 refine lu [(0, _), (1, _), (2, _), (3, _), (4, _)] (fun (_ : Unit) => [(13, .int .i64 (sK key))]) (fun (_ : Unit) W => V w0 W F) sb5 ?_ ?_
 ·rintro _ w1 HL
  dsimp only [List.cons_append, List.nil_append]
  refine aO (bT O (bP O (Z (fO O O (by omega)) (fP O (aY ?_)))))
  refine gV [(0, _), (2, _), (3, _), (13, _)] (fun (⟨i, m⟩ : Int × Int) => [(4, .int .i64 m), (14, .int .i64 i)]) (fun (⟨i, m⟩ : Int × Int) W => ((-1 ≤ i ∧ i ≤ l.length + 1) ∧ (1 ≤ m ∧ m ≤ n) ∧ yu (sK key) (EU c) l n (x + sK key) = yu (sK key) (EU c) l m i) ∧ V w0 W F) (fun (⟨i, m⟩ : Int × Int) => (EW (sK key) l.length i).toNat) ((x + sK key, n)) OB ug ⟨⟨by omega, by omega, O⟩, HL⟩ ?_
  rintro ⟨i, m⟩ w2 ⟨⟨hi, hm, hE⟩, HL⟩
  dsimp only [List.cons_append, List.nil_append]
  have hms := KY (n := l.length) (i := i) hst
  have hmp := fun h0 h1 => Io (n := l.length) (i := i) hst h0 h1
  refine aO (bT O (Z (mX O O) (jJ O (fun h1 => ?_) (fun h1 => ?_))))
  ·(try simp only [aA] at h1)
   refine bg (bP O (bg (bP O (bg (Z (jy (hr _ (HL)) aj O) (bg (Z (gB O O) (jh O O (jL O (fun h2 => ?_) (fun h2 => ?_))))))))))
   ·(try simp only [aA] at h2)
    refine gQ (aO (aY (aO (bT O (bP O ?_)))))
    obtain ⟨bv, ov, cv, ev⟩ := gJ.rG (hr _ (HL)) (by omega)
    cases ev
    refine Z (dP aj bV O O (by omega)) ?_
    refine Z (fG (dA bG O) O (by first | exact gJ.mZ (hr _ (HL)) (by omega) | exact gJ.yA (hr _ (HL)) (by omega) | exact gJ.xX (hr _ (HL)) (by omega))) ?_
    refine bP O (Z (iM O O) (jL O (fun h3 => ?_) (fun h3 => ?_)))
    ·(try simp only [aA] at h3)
     have hf := Us (m := m) h3
     refine dO (aN (bn (aW (aC (jO O O (Z (fO O O (by omega)) (iJ O (bY ?_))))))))
     refine dU (_, _) ug OB (by (try dsimp only); exact ⟨⟨by omega, by omega, hE.trans (KT hst (by omega) (by omega) hf)⟩, HL⟩) ?_
     ·(try dsimp only); have := hmp (by omega) (by omega); omega
    ·(try simp only [aA] at h3)
     have heq : l.getD i.toNat 0 = c := by have h9 := h3; omega
     refine gQ (aO (bT O (Z (iZ O O (by omega)) (fP O (bT O (Z (dY O O) (jL O (fun h4 => ?_) (fun h4 => ?_))))))))
     ·(try simp only [aA] at h4)
      have hf := Ut heq h4
      refine dO (aN (bn (aW (aC (jO O O (Z (fO O O (by omega)) (iJ O (bY ?_))))))))
      refine dU (_, _) ug OB (by (try dsimp only); exact ⟨⟨by omega, by omega, hE.trans (KT hst (by omega) (by omega) hf)⟩, HL⟩) ?_
      ·(try dsimp only); have := hmp (by omega) (by omega); omega
     ·(try simp only [aA] at h4)
      have hf := Xk heq h4
      refine gQ (aO (bT O (Z (dX O O) (jJ O (fun h5 => ?_) (fun h5 => ?_)))))
      ·(try simp only [aA] at h5)
       refine bF (bF (jh O O (iL (C9 (aC (jO O O (Z (iZ O O (by omega)) (fP O (bT O (bP O (Z (dY O O) (iJ O (iJ O (fC O (aT (aB (aB (aT (aB ?_)))))))))))))))))))
       refine ji (.inl O) results42 O O O ?_
       refine ⟨?_, HL⟩
       rw [DL (hE.trans (Ej (by omega) (by omega) hf))]
       first | (rw [if_pos (by omega)]; rfl) | (rw [if_neg (by omega)]; rfl)
      ·(try simp only [aA] at h5)
       refine bg (bP O (bg (Z (dX O O) (ig O O (jL O (fun h6 => ?_) (fun h6 => ?_))))))
       ·(try simp only [aA] at h6)
        refine aC (jO O O (Z (iZ O O (by omega)) (fP O (bT O (bP O (Z (dY O O) (iJ O (iJ O (fC O (aT (aB (aB (aT (aB ?_))))))))))))))
        refine ji (.inl O) results42 O O O ?_
        refine ⟨?_, HL⟩
        rw [DL (hE.trans (Ej (by omega) (by omega) hf))]
        first | (rw [if_pos (by omega)]; rfl) | (rw [if_neg (by omega)]; rfl)
       ·(try simp only [aA] at h6)
        refine gQ (bT O (bP O (Z (dY O O) (iJ O (iJ O (fC O (aT (aB (aB (aT (aB ?_)))))))))))
        refine ji (.inl O) results42 O O O ?_
        refine ⟨?_, HL⟩
        rw [DL (hE.trans (Ej (by omega) (by omega) hf))]
        first | (rw [if_pos (by omega)]; rfl) | (rw [if_neg (by omega)]; rfl)
   ·(try simp only [aA] at h2)
    refine dO (aN (aN (bn (aW (iV (iJ O (iJ O (fC O ?_))))))))
    refine ji (.inl O) results42 O O O ?_
    exact ⟨by rw [I9 (hE.trans (Ei (by omega)))]; rfl, HL⟩
  ·(try simp only [aA] at h1)
   refine bF (bF (bF (bF (ig O O (iL (qH (dO (aN (aN (bn (aW (iV (iJ O (iJ O (fC O ?_)))))))))))))))
   refine ji (.inl O) results42 O O O ?_
   exact ⟨by rw [I9 (hE.trans (Ei (by omega)))]; rfl, HL⟩
 ·skip
  refine bT O (Z (dX O O) (jJ O (fun h7 => ?_) (fun h7 => ?_)))
  ·(try simp only [aA] at h7)
   refine bF (bF (jh O O (iL (C9 (aC (iJ O (bY ?_)))))))
   refine dF (()) ?_ ?_ ?_
   ·exact (Sub.jG O (by congr 1; unfold sK; first | rw [if_pos (by omega)] | rw [if_neg (by omega)]) (Sub.nil _))
   ·exact sb5
   ·(try dsimp only)
    first | done | exact H
  ·(try simp only [aA] at h7)
   refine bg (bP O (bg (Z (dX O O) (ig O O (jL O (fun h8 => ?_) (fun h8 => ?_))))))
   ·(try simp only [aA] at h8)
    refine aC (iJ O (bY ?_))
    refine dF (()) ?_ ?_ ?_
    ·exact (Sub.jG O (by congr 1; unfold sK; first | rw [if_pos (by omega)] | rw [if_neg (by omega)]) (Sub.nil _))
    ·exact sb5
    ·(try dsimp only)
     first | done | exact H
   ·(try simp only [aA] at h8)
    refine dn ?_
    refine dF (()) ?_ ?_ ?_
    ·exact (Sub.jG O (by congr 1; unfold sK; first | rw [if_pos (by omega)] | rw [if_neg (by omega)]) (Sub.nil _))
    ·exact sb5
    ·(try dsimp only)
     first | done | exact H
end
end Go.Proofs.YtpdeedplgmbopaaGreatDoor
end
section
namespace Go.Proofs.YtpdeedplgmbopaaGreatDoor
open Go.RowKit
def aeA (l : List qN) : Int := if l.any (fun x => decide (16384 < x.1.size)) then 3 else if l.any (fun x => decide (x.2 < 0)) then 1 else 0
section
variable {P : Program} {L : List (Nat × Value)} {w0 w : World} {F : HP} {p : Nat} {hl l : List qN} {base most : Int} {v : Value}
def ab1 (hl : List qN) (most : Int) : Nat := hl.length - most.toNat
def af4 (hl : List qN) (most : Int) (l : List qN) : List qN := if aeA l = 0 then (hl ++ l).drop (ab1 (hl ++ l) most) else hl
def af5 (hl : List qN) (base most : Int) (l : List qN) : Int := if aeA l = 0 then base + ab1 (hl ++ l) most else base
end
def aha (l : List qN) : List qN := af4 [] 4096 l
def ahb (l : List qN) : Int := af5 [] 1 4096 l
end Go.Proofs.YtpdeedplgmbopaaGreatDoor
end
section
namespace Go.Proofs.YtpdeedplgmbopaaGreatDoor
open Go.RowKit
open _root_.Go.Proofs.Tryz
theorem Ey.cut {I : Hp} {v : Value} {sz n : Nat} {xs : List Value} (hr : Ey I sz v n xs) {l h : Nat} (h1 : l ≤ h) (h2 : h ≤ n) : Ey I sz (vH sz l h v) (h - l) ((xs.drop (l * sz)).take ((h - l) * sz)) := by
  obtain ⟨hl, a, c, rfl, hc1, hc2, hc⟩ := hr
  refine ⟨?_, Fb a l c sz, c - l, rfl, by omega, by omega, fun hp => ?_⟩
  · rw [List.length_take, List.length_drop, hl, ← Nat.sub_mul]
    exact Nat.min_eq_left (Nat.mul_le_mul_right _ (by omega))
  · obtain ⟨b, o, cs, e, fr, rfl, hI, hcell⟩ := hc (by omega)
    have : ¬ c = l := by omega
    refine ⟨b, o + l * sz, cs, e, fr, by simp [Fb, this, wG], hI, fun j hj => ?_⟩
    have e1 : l * sz + (h - l) * sz = h * sz := by rw [← Nat.add_mul]; congr 1; omega
    have e2 : h * sz ≤ n * sz := Nat.mul_le_mul_right _ h2
    have := hcell (l * sz + j) (by omega)
    rw [Nat.add_assoc, this, List.getD_eq_getElem?_getD, List.getD_eq_getElem?_getD, List.getElem?_take, if_pos hj, List.getElem?_drop]
def hlK (v : Value) (l : List qN) : HP := know (fun I => Ey I 2 v l.length (l.flatMap CB)) fun _ _ hl h => h.mono hl
def jX (p : Nat) (hl : List qN) (base most : Int) : HP := uZ fun (v : Value) => fact (HOk hl base most) • dW p (.cells #[v, .int .i64 base, .int .i64 most] 155 (0, 0)) • hlK v hl
section
variable {P : Program} {L : List (Nat × Value)} {w0 w : World} {F : HP} {p : Nat} {hl l : List qN} {base most : Int} {v : Value}
theorem V.KZ (H : V w0 w (hlK v l • F)) : Rd w 2 v l.length (l.flatMap CB) := let ⟨I, h, hI⟩ := H.tX; h.rd hI
theorem V.N7 (H : V w0 w (Row 218 2 v l.length (l.flatMap CB) • F)) : V w0 w (hlK v l • F) := by
  have hl := H.yx
  rcases H.vG with ⟨a, rfl, h1, h2, H1⟩ | ⟨g, o, c, cur, rfl, h2, h3, h4, h5, H1⟩
  · exact H1.yB fun I => ⟨hl, a, 0, by rw [h1], by omega, by decide, fun h => by omega⟩
  · exact H1.freeze.FV (qI (fun I hI => ⟨hl, _, c, rfl, h2, h3, fun _ => ⟨g, o, cur, _, (0, 0), rfl, hI, h5⟩⟩) F)
theorem V.VU (H : V w0 w (jX p hl base most • F)) : ∃ v, HOk hl base most ∧ V w0 w (dW p (.cells #[v, .int .i64 base, .int .i64 most] 155 (0, 0)) • hlK v hl • F) := by
  obtain ⟨v, H⟩ := H.nN
  obtain ⟨h, H⟩ := H.flat.fact
  exact ⟨v, h, H.flat⟩
theorem V.Gx (h : HOk hl base most) (H : V w0 w (dW p (.cells #[v, .int .i64 base, .int .i64 most] 155 (0, 0)) • hlK v hl • F)) : V w0 w (jX p hl base most • F) :=
  V.jv v (V.deep (V.lJ h H.deep))
theorem acU {l : List qN} {k : Nat} (hk : k < l.length) : (l.flatMap CB).getD (k * 2 + 0) undef = .string (l.getD k default).1 := by
  have h := congrArg (fun x => x.getD 0 undef) (wO NQ hk default)
  simp only [List.getD_eq_getElem?_getD, List.getElem?_take, List.getElem?_drop] at h ⊢
  exact h
theorem MK {n : Int} (H : V w0 w F) (hn : 0 ≤ n ∧ n ≤ 4096) : iI prog 56 #[.int .i64 n] w fun v w' => ∃ p, v = .tuple #[.pointer (some ⟨p, 0, none⟩), .int .i64 0] ∧ V w0 w' (jX p [] 1 n • F) := by
  refine jr func56 ntmps56 ?_
  refine iV (iJ O (vY O (bT O (Z (gB O O) (jJ O (fun h1 => ?_) (fun h1 => ?_))))))
  · (try simp only [aA] at h1)
    exfalso; first | contradiction | omega
  · (try simp only [aA] at h1)
    refine bg (bP O (bg (Z (dY O O) (ig O O (jL O (fun h2 => ?_) (fun h2 => ?_))))))
    · (try simp only [aA] at h2)
      exfalso; first | contradiction | omega
    · (try simp only [aA] at h2)
      refine gQ (bT O ?_)
      refine Z (eP (zl := [.slice none 0 0, .int .i64 0, .int .i64 0]) (pl := [(0, 1), (1, 1), (2, 1)]) [_, _, _] lY zeroValue155 O (fun w => by kernel_rfl) O (.zero (zs := [.slice none 0 0]) O (.on (.on .nil))) O) ?_
      refine jV (jH (l := [_, _, _]) H O O) ?_
      rintro _ w1 ⟨b1, rfl, H1⟩
      refine iJ O (fC O (P5 results56 O O ?_))
      exact ⟨_, O, V.Gx (v := .slice none 0 0) (hl := []) ⟨by simp, by decide, by decide, by simp; omega, by omega, by simp⟩ ((H1.jw none).N7 (l := [])).swap⟩
theorem Js (H : V w0 w (jX p hl base most • F)) : iI prog 113 #[.pointer (some ⟨p, 0, none⟩)] w fun v w' => ∃ q, v = .pointer (some ⟨q, 0, none⟩) ∧ V w0 w' (jX q hl base most • jX p hl base most • F) := by
 refine jr func113 ntmps113 ?_
 refine jR O (aO ?_)
 obtain ⟨Uc, EC, CU⟩ := (H).VU
 have hkl := EC.1
 have Ri := @Vy hl
 have TY := CU.drew
 have qj := V.kp (TY.f2.f2)
 refine y9 [3, 8, 12] qj O (iU 0 O qj O (jY 1 O qj O (iq 2 O qj 0 lY O sizeOf149 O (jQ 3 O qj (fun W hW => kF gW O ((Kp.h hW)).get.2 O) (iU 5 O qj O (jY 6 O qj O (iq 7 O qj 1 lY O sizeOf2 O (jQ 8 O qj (fun W hW => kF underlying2 O ((Kp.h hW)).get.2 O) (iU 9 O qj O (jY 10 O qj O (iq 11 O qj 2 lY O ay O (jQ 12 O qj (fun W hW => kF aH O ((Kp.h hW)).get.2 O) (nD 4 O (iw (TY.jw none) gW acV O O O ((TY.f2).KZ) (by assumption) (by omega) (by omega)) ?_)))))))))))))
 rintro l2 w2 H2
 have Am := V.kp (H2.f3.f3.f3)
 refine eG Am (fun W hW => (Kp.h hW).right.f2.f2) ?_
 refine jB 13 O Am (fun _ => eP (zl := [.slice none 0 0, .int .i64 0, .int .i64 0]) (pl := [(0, 1), (1, 1), (2, 1)]) [_, _, _] lY zeroValue155 O (fun w => by kernel_rfl) O (.one (Rd.one ((H2).aQ)) (.on (.on .nil))) O) ?_
 refine nD 14 O (jH (l := [_, _, _]) H2 O O) ?_
 rintro _ w3 ⟨b3, rfl, H3⟩
 have Bv := V.kp (H3.f4.f4.f4.f4)
 refine gU Bv (by kernel_rfl) ?_
 refine jB 15 O Bv (fun _ => dR O) (ru (aW (nO (dK results113 O ?_))))
 have Ho5 := H3.f4.f4
 have Hc6 := V.Gx EC Ho5
 have HQ := Hc6.f2.f3
 rw [List.nil_append, Nat.zero_add] at HQ
 exact ⟨_, O, V.Gx EC HQ.N7.swap⟩
end
def strs (l : List ByteArray) : List Value := l.map Value.string
theorem N8 {l : List ByteArray} : ∀ x ∈ strs l, x.oneCell' = true := by
  intro x hx
  obtain ⟨e, _, rfl⟩ := List.mem_map.1 hx
  rfl
def pK (hl : List qN) : List ByteArray := hl.map (·.1) ++ [.empty]
section
variable {P : Program} {L : List (Nat × Value)} {w0 w : World} {F : HP} {p : Nat} {hl l : List qN} {base most : Int} {v : Value}
theorem Xl {hl : List qN} {k : Nat} (hk : k < hl.length) : strs ((hl.take (k + 1)).map (·.1)) = strs ((hl.take k).map (·.1)) ++ [.string (hl.getD k default).1] := by
  unfold strs
  rw [List.take_succ_eq_append_getElem hk, List.map_append, List.map_append, List.getD_eq_getElem?_getD, List.getElem?_eq_getElem hk]; rfl
theorem ML (H : V w0 w (jX p hl base most • F)) : iI prog 114 #[.pointer (some ⟨p, 0, none⟩)] w fun v w' => ∃ q ov nv, v = .pointer (some ⟨q, 0, none⟩) ∧
  V w0 w' (dW q (.cells #[ov, nv, .int .i64 hl.length] 166 (0, 0)) • Row 9 1 ov (pK hl).length (strs (pK hl)) • Row 9 1 nv (pK hl).length (strs (pK hl)) • jX p hl base most • F) := by
 refine jr func114 ntmps114 ?_
 refine jR O (aO ?_)
 obtain ⟨Uc, EC, CU⟩ := (H).VU
 have hkl := EC.1
 refine aC (nK O O (bJ 0 lY O sizeOf149 O (fV gW O (CU).get.2 O (Z (kH ((CU.f2).KZ) gW O) ?_))))
 refine Z (eP (zl := [.slice none 0 0, .slice none 0 0, .int .i64 0]) (pl := [(0, 1), (1, 1), (2, 1)]) [_, _, _] iG zeroValue166 O (fun w => by kernel_rfl) O (.zero (zs := [.slice none 0 0]) O (.zero (zs := [.slice none 0 0]) O (.on .nil))) O) ?_
 refine jV (jH (l := [_, _, _]) CU O O) ?_
 rintro _ w2 ⟨b2, rfl, H2⟩
 refine vY O (jR O (aY ?_))
 refine gV [(0, _), (3, _)] (fun (⟨k, u⟩ : Nat × Value) => [(4, .int .i64 (k : Int))]) (fun (⟨k, u⟩ : Nat × Value) W => k ≤ hl.length ∧ V w0 W (dW b2 (.cells #[u, .slice none 0 0, .int .i64 hl.length] 166 (0, 0)) • Row 9 1 u k (strs ((hl.take k).map (·.1))) • dW p (.cells #[Uc, .int .i64 base, .int .i64 most] 155 (0, 0)) • hlK Uc hl • F)) (fun (⟨k, u⟩ : Nat × Value) => hl.length - k) ((0, .slice none 0 0)) ug mG ⟨by omega, (H2.f3.f3.f3).jw none |>.swap⟩ ?_
 rintro ⟨k, u⟩ w3 ⟨hk, HL⟩
 dsimp only [List.cons_append, List.nil_append]
 refine aO (bT O (nK O O (bJ 0 lY O sizeOf149 O (fV gW O (HL.f3).get.2 O (Z (kH ((HL.f4).KZ) gW O) (Z (gB O O) (jL O (fun h1 => ?_) (fun h1 => ?_))))))))
 ·(try simp only [aA] at h1)
  have hkl2 : k < hl.length := by have h9 := h1; omega
  refine gQ (aO (aY ?_))
  have acW := HL.drew
  have zY := V.kp (acW.f4.f4.f4.f4)
  refine y9 [4, 8, 12] zY O (iU 0 O zY O (iU 1 O zY O (jY 2 O zY O (iq 3 O zY 0 iG O pO O (jQ 4 O zY (fun W hW => kF jo O ((Kp.h hW)).get.2 O) (iU 5 O zY O (jY 6 O zY O (iq 7 O zY 0 lY O sizeOf149 O (jQ 8 O zY (fun W hW => kF gW O ((Kp.h hW).f3).get.2 O) (iU 9 O zY O ?_))))))))))
  obtain ⟨aeB, aeC, aeD, Zl⟩ := Rd.rG ((acW.f4).KZ) (by omega)
  cases Zl
  refine jB 10 O zY (fun _ => dP gW sizeOf218 O O (by omega)) (iq 11 O zY 0 lZ O oK O (jQ 12 O zY (fun W hW => Qb (fG (dA kM O) O (Rd.atS (((Kp.h hW).f4).KZ) (by omega) (by decide))) (acU hkl2)) (nD 13 O (kZ (vs := [_]) acW jo oK zeroValue9 O O O (by decide) (aG bQ)) ?_)))
  rintro l4 w4 H4
  have Ai := V.kp (H4.f5.f5.f5.f5.f5)
  refine eG Ai (fun W hW => (Kp.h hW).right.f4.f4.f4.f4) ?_
  refine nD 14 O (iw H4.f3 jo aa5 O O O ((H4).aQ) (aG bQ) (by omega) (by omega)) ?_
  rintro l5 w5 H5
  have Hd6 := H5.f2.right
  have FC := V.kp (Hd6.f4.f4.f4.f4)
  refine gU FC (by kernel_rfl) ?_
  refine jY 15 O FC O (iq 16 O FC 0 iG O pO O ?_)
  refine gy 17 O (by kernel_rfl) (fU 0 (l' := [_, _, _]) Hd6.f2 pO O O (by first | rfl | exact Rd.one ((Hd6).aQ)) O O) ?_
  rintro _ w7 H7
  have Dt := V.kp (H7.f4.f4.f4.f4)
  refine gU Dt (by kernel_rfl) ?_
  refine ru (aK (aW (aC (bP O (Z (fO O O (by omega)) (iJ O (bY ?_)))))))
  refine dU ((k + 1, l5)) ?_ ?_ ?_ ?_
  ·exact mG
  ·exact ug
  ·(try dsimp only)
   first | done | exact ⟨by omega, by rw [Xl hkl2]; exact H7⟩
  ·(try dsimp only); omega
 ·(try simp only [aA] at h1)
  refine dO (aN (aN (bn (aW (aO ?_)))))
  obtain rfl : k = hl.length := by omega
  refine aC (jO O O (dL O (bJ 0 iG O pO O (fV jo O (HL).get.2 O (jV (kZ (vs := [_]) HL jo oK zeroValue9 O O O (by decide) (aG bQ)) ?_)))))
  rintro l8 w8 H8
  refine jV (iw H8.f3 jo aa5 O O O ((H8).aQ) (aG bQ) (by omega) (by omega)) ?_
  rintro l9 w9 H9
  have aa6 := H9.f2.right
  refine dL O (bJ 0 iG O pO O (aI (fU 0 (l' := [_, _, _]) aa6.f2 pO O O (by first | rfl | exact Rd.one ((aa6).aQ)) O O) ?_))
  rintro _ FX sW
  have HX := sW
  rw [List.take_length, show strs (hl.map (·.1)) ++ [Value.string { data := #[] }] = strs (pK hl) from by unfold pK strs; rw [List.map_append]; rfl, show hl.length + 1 = (pK hl).length from by simp [pK]] at HX
  have hon := @N8 (pK hl)
  have hol : (pK hl).length = hl.length + 1 := by simp [pK]
  refine rZ O (nK O O (bJ 0 iG O pO O (fV jo O (HX).get.2 O (jV (iw (HX.jw none) jo aa5 O O O ((HX.f2).aQ) (by assumption) (by omega) (by omega)) ?_))))
  rintro l12 w12 wL
  refine dL O (bJ 1 iG O pO O (aI (fU 1 (l' := [_, _, _]) wL.f2 pO O O (by first | rfl | exact Rd.one ((wL).aQ)) O O) ?_))
  rintro _ Qs xZ
  refine rZ O (fC O (dK results114 O ?_))
  have acX := xZ.f5.f5
  have acY := V.Gx EC acX
  have HQ := acY.f3.f4.f4
  rw [List.nil_append, Nat.zero_add] at HQ
  exact ⟨_, _, _, O, HQ⟩
end
section
def aeE : ByteArray := ⟨#[118, 105, 45, 97, 114, 103, 45, 100, 105, 103, 105, 116]⟩
def Zm : ByteArray := ⟨#[118, 105, 45, 99, 104, 97, 110, 103, 101, 45, 99, 97, 115, 101]⟩
def FH : ByteArray := ⟨#[118, 105, 45, 99, 104, 97, 110, 103, 101, 45, 99, 104, 97, 114]⟩
def FI : ByteArray := ⟨#[118, 105, 45, 99, 104, 97, 110, 103, 101, 45, 116, 111]⟩
def EX : ByteArray := ⟨#[118, 105, 45, 100, 101, 108, 101, 116, 101]⟩
def BK : ByteArray := ⟨#[118, 105, 45, 100, 101, 108, 101, 116, 101, 45, 116, 111]⟩
def Zn : ByteArray := ⟨#[118, 105, 45, 105, 110, 115, 101, 114, 116]⟩
def uI : ByteArray := ⟨#[118, 105, 45, 109, 111, 118, 101]⟩
def acZ : ByteArray := ⟨#[118, 105, 45, 109, 111, 118, 101, 109, 101, 110, 116, 45, 109, 111, 100, 101]⟩
def Zo : ByteArray := ⟨#[118, 105, 45, 111, 118, 101, 114, 115, 116, 114, 105, 107, 101]⟩
def Zp : ByteArray := ⟨#[118, 105, 45, 112, 117, 116]⟩
def ac0 : ByteArray := ⟨#[118, 105, 45, 114, 101, 100, 111]⟩
def Ip : ByteArray := ⟨#[118, 105, 45, 115, 101, 116, 45, 109, 97, 114, 107]⟩
def Zq : ByteArray := ⟨#[118, 105, 45, 115, 117, 98, 115, 116]⟩
def Zr : ByteArray := ⟨#[118, 105, 45, 117, 110, 100, 111]⟩
def Iq : ByteArray := ⟨#[118, 105, 45, 121, 97, 110, 107, 45, 116, 111]⟩
def Pq : List ByteArray := [aeE, Zm, FH, FI, EX, BK, Zn, uI, acZ, Zo, Zp, ac0, Ip, Zq, Zr, Iq]
def BL (n : ByteArray) : Prop := ∃ k, k < 16 ∧ (Pq.getD k .empty).toList = n.toList
theorem Zt {l : List ByteArray} {k : Nat} (hk : k < l.length) : (strs l).getD k undef = .string (l.getD k .empty) := by
  unfold strs; simp [List.getD_eq_getElem?_getD, hk]
def Ir : ByteArray := ⟨#[102, 70, 116, 84, 96]⟩
def ac1 : ByteArray := ⟨#[100, 99, 121]⟩
def Ba (n : ByteArray) (keys : List Int) : Prop :=
  if n.toList = uI.toList then keys.length = 1 ∧ keys.getD 0 0 ∈ CV Ir
  else if n.toList = FH.toList ∨ n.toList = Ip.toList then keys.length = 1
  else if n.toList = BK.toList ∨ n.toList = FI.toList ∨ n.toList = Iq.toList then
    keys.getD 0 0 ∈ CV ac1 ∧ ((mV (keys.drop 1)).length = 0 ∨ ((mV (keys.drop 1)).length = 1 ∧ (mV (keys.drop 1)).getD 0 0 ∈ CV Ir))
  else False
open Classical in
noncomputable def nT (n : ByteArray) (keys : List Int) : Int := if ¬ BL n then -1 else if keys.length = 0 then 1 else if Ba n keys then 1 else 0
section
variable {n : ByteArray} {keys : List Int}
theorem Xm (h : ¬ BL n) : nT n keys = -1 := if_pos h
theorem Zu (h : BL n) (h0 : keys.length = 0) : nT n keys = 1 := by unfold nT; rw [if_neg (not_not_intro h), if_pos h0]
theorem Rj (h : BL n) (h1 : Ba n keys) : nT n keys = 1 := by
  unfold nT; rw [if_neg (not_not_intro h), if_pos h1]; split <;> rfl
theorem DN (h : BL n) (h0 : ¬ keys.length = 0) (h1 : ¬ Ba n keys) : nT n keys = 0 := by unfold nT; rw [if_neg (not_not_intro h), if_neg h0, if_neg h1]
theorem gZ (h : n.toList = uI.toList) : Ba n keys ↔ (keys.length = 1 ∧ keys.getD 0 0 ∈ CV Ir) := by unfold Ba; rw [if_pos h]
theorem lg (h1 : ¬ n.toList = uI.toList) (h : n.toList = FH.toList ∨ n.toList = Ip.toList) : Ba n keys ↔ keys.length = 1 := by unfold Ba; rw [if_neg h1, if_pos h]
theorem eX (h1 : ¬ n.toList = uI.toList) (h2 : ¬ (n.toList = FH.toList ∨ n.toList = Ip.toList)) (h : n.toList = BK.toList ∨ n.toList = FI.toList ∨ n.toList = Iq.toList) :
    Ba n keys ↔ (keys.getD 0 0 ∈ CV ac1 ∧ ((mV (keys.drop 1)).length = 0 ∨ ((mV (keys.drop 1)).length = 1 ∧ (mV (keys.drop 1)).getD 0 0 ∈ CV Ir))) := by unfold Ba; rw [if_neg h1, if_neg h2, if_pos h]
theorem vV (h1 : ¬ n.toList = uI.toList) (h2 : ¬ (n.toList = FH.toList ∨ n.toList = Ip.toList)) (h : ¬ (n.toList = BK.toList ∨ n.toList = FI.toList ∨ n.toList = Iq.toList)) : ¬ Ba n keys := by unfold Ba; rw [if_neg h1, if_neg h2, if_neg h]; exact id
end
section
variable {w0 w : World} {F : HP} {v u : Value} {l : List ByteArray} {n : ByteArray} {keys : List Int}
theorem Uw (H : V w0 w F) : iI prog 19 #[] w fun u w' => V w0 w' (Row 9 1 u 16 (strs Pq) • F) := by
  refine WB func19 ntmps19 ?_
  refine jR O (iV (jV (kZ (vs := [_, _, _, _, _, _, _, _, _, _, _, _, _, _, _, _]) H jo oK zeroValue9 O O O (by decide) (aG (aG (aG (aG (aG (aG (aG (aG (aG (aG (aG (aG (aG (aG (aG (aG bQ))))))))))))))))) ?_))
  rintro l1 w1 H1
  refine fC O (dK results19 O ?_)
  exact H1
theorem Xn (H : V w0 w F) (hr : Wy w0 F 1 v l.length (strs l)) : iI prog 108 #[v, .string n] w fun u w' => ∃ i, u = .int .i64 i ∧ (0 ≤ i ↔ ∃ k, k < l.length ∧ (l.getD k .empty).toList = n.toList) ∧ V w0 w' F := by
 have hl9 : l.length ≤ 9223372036854775807 := by obtain ⟨_, a, c, _, h1, h2, _⟩ := hr w H; omega
 refine oN func108 ntmps108 ?_
 refine jR O (aO (bT O (Z (kH (hr _ (H)) jo O) (bP O (iL (aY ?_))))))
 refine gV [(0, _), (1, _), (7, _)] (fun (k : Nat) => [(8, .int .i64 (k : Int))]) (fun (k : Nat) W => (k ≤ l.length ∧ ∀ j, j < k → ¬ (l.getD j .empty).toList = n.toList) ∧ V w0 W F) (fun (k : Nat) => l.length - k) (0) vZ mG ⟨⟨by omega, fun j h => by omega⟩, H⟩ ?_
 rintro k w1 ⟨⟨hk, hno⟩, HL⟩
 dsimp only [List.cons_append, List.nil_append]
 refine iV (Z (gB O O) (qR (bH O (fun h1 => ?_) (fun h1 => ?_))))
 ·(try simp only [aA] at h1)
  refine gQ (aO (aY (bT O (vY O ?_))))
  have hkl : k < l.length := by omega
  refine aC (jO O O (bP O ?_))
  obtain ⟨bv, ov, cv, ev⟩ := Rd.rG (hr _ (HL)) (by omega)
  cases ev
  refine Z (dP jo oK O O (by omega)) ?_
  refine Z (Qb (fG (dA kM O) O (by first | exact Rd.mZ (hr _ (HL)) (by omega) | exact Rd.yA (hr _ (HL)) (by omega) | exact Rd.xX (hr _ (HL)) (by omega))) (Zt (l := l) hkl)) ?_
  refine Z (fJ O O) (jL O (fun h2 => ?_) (fun h2 => ?_))
  ·(try simp only [aA] at h2)
   have heq : n.toList = (l.getD k .empty).toList := h2
   refine bT O (fC O (aT (aB (aB (aT (aB (dK results108 O ?_)))))))
   exact ⟨_, O, ⟨fun _ => ⟨k, hkl, heq.symm⟩, fun _ => by omega⟩, HL⟩
  ·(try simp only [aA] at h2)
   have hne : ¬ n.toList = (l.getD k .empty).toList := h2
   refine dn (aK (aW (aC (Z (fO O O (by omega)) (bP O (bY ?_))))))
   refine dU (k + 1) ?_ ?_ ?_ ?_
   ·exact mG
   ·exact vZ
   ·(try dsimp only)
    first | done | exact ⟨⟨by omega, fun j h => if e : j = k then (by rw [e]; exact fun c => hne c.symm) else hno j (by omega)⟩, HL⟩
   ·(try dsimp only); omega
 ·(try simp only [aA] at h1)
  refine dO (aN (aN (bn (aW (jP O (dK results108 O ?_))))))
  exact ⟨_, rfl, ⟨fun h => (by omega), fun ⟨j, h1, h2⟩ => absurd h2 (hno j (by omega))⟩, HL⟩
theorem Ux (H : V w0 w F) (hr : Wy w0 F 1 v l.length (strs l)) : iI prog 49 #[v, .string n] w fun u w' => ∃ b, u = .bool b ∧ (b = true ↔ ∃ k, k < l.length ∧ (l.getD k .empty).toList = n.toList) ∧ V w0 w' F := by
  refine oN func49 ntmps49 ?_
  refine jR O (bT O (bP O (dS O func108 (Xn H (fun W HW => hr _ (HW))) ?_)))
  rintro _ w1 ⟨i1, rfl, hi1, H1⟩
  refine Z (mX O O) (fC O (dK results49 O ?_))
  exact ⟨_, O, by rw [decide_eq_true_iff]; assumption, H1⟩
end
end
theorem rU {b : Bool} {P : Prop} [Decidable P] (hb : b = true) (h : P) : Value.bool b = Value.bool (decide P) := by rw [hb, decide_eq_true h]
theorem ab2 {b : Bool} {A B : Prop} [Decidable (A ∨ B)] (h1 : ¬ A) (hb : b = true ↔ B) : Value.bool b = Value.bool (decide (A ∨ B)) := congrArg Value.bool (by rw [Bool.eq_iff_iff, decide_eq_true_iff]; exact hb.trans ⟨.inr, fun h => h.resolve_left h1⟩)
theorem Zv {b : Bool} {A B C : Prop} [Decidable (A ∨ B ∨ C)] (h1 : ¬ A) (h2 : ¬ B) (hb : b = true ↔ C) : Value.bool b = Value.bool (decide (A ∨ B ∨ C)) := congrArg Value.bool (by rw [Bool.eq_iff_iff, decide_eq_true_iff]; exact hb.trans ⟨fun h => .inr (.inr h), fun h => (h.resolve_left h1).resolve_left h2⟩)
section
variable {w0 w : World} {F : HP} {v u : Value} {n : ByteArray} {keys : List Int}
theorem FK (H : V w0 w F) (hr : jE w0 F .i32 v keys) : iI prog 16 #[.string n, v] w fun u w' => u = .int .i64 (nT n keys) ∧ V w0 w' F := by
 have hl9 : keys.length ≤ 9223372036854775807 := by have := (hr _ H).open; obtain ⟨a, c, e, h3, h4, _⟩ := this; omega
 refine oN func16 ntmps16 ?_
 refine jR O (aO (iV (dS O func19 (Uw H) ?_)))
 rintro u1 w1 H1
 refine bP O (dS O func49 (Ux (l := Pq) H1 (fun W HW => (HW).aQ)) ?_)
 rintro _ w2 ⟨b2, rfl, hb2, H2⟩
 have SY := H2.right
 refine Z (lC O) (jL O (fun h1 => ?_) (fun h1 => ?_))
 ·(try simp only [aA] at h1)
  have hkn : ¬ BL n := fun hc => by have h9 := hb2.2 hc; rw [h1] at h9; exact absurd h9 (by decide)
  refine jP O (aB (dK results16 O ?_))
  exact ⟨by rw [Xm hkn], SY⟩
 ·(try simp only [aA] at h1)
  have hkn : BL n := hb2.1 h1
  refine gQ (aO (bT O (Z (jy (hr _ (SY)) aj O) (Z (dX O O) (jL O (fun h2 => ?_) (fun h2 => ?_))))))
  ·(try simp only [aA] at h2)
   refine jP O (aB (dK results16 O ?_))
   exact ⟨by rw [Zu hkn (by omega)], SY⟩
  ·(try simp only [aA] at h2)
   refine gQ (aO ?_)
   have hk0 : ¬ keys.length = 0 := by omega
   refine aC (fP O ?_)
   refine lu [] (fun (m : Bool) => [(5, .bool m)]) (fun (m : Bool) W => (m = true ↔ Ba n keys) ∧ V w0 W F) (Sub.nil _) ?_ ?_
   ·rintro m w4 ⟨hm, HM⟩
    dsimp only [List.cons_append, List.nil_append]
    refine aO (bT O (jL O (fun h3 => ?_) (fun h3 => ?_)))
    ·(try simp only [aA] at h3)
     have hmt := hm.1 h3
     refine jP O (aB (dK results16 O ?_))
     exact ⟨by rw [Rj hkn hmt], HM⟩
    ·(try simp only [aA] at h3)
     have hmt : ¬ Ba n keys := fun hc => by have h9 := h3; rw [hm.2 hc] at h9; exact absurd h9 (by decide)
     refine gQ (jP O (dK results16 O ?_))
     exact ⟨by rw [DN hkn hk0 hmt], HM⟩
   ·skip
    refine bT O (iL (aY (iV (Z (fJ O O) (fP O (bH O (fun h4 => ?_) (fun h4 => ?_)))))))
    ·(try simp only [aA] at h4)
     have hmv : n.toList = uI.toList := h4
     refine aC (bP O (Z (jy (hr _ (SY)) aj O) (Z (dX O O) (jJ O (fun h5 => ?_) (fun h5 => ?_)))))
     ·(try simp only [aA] at h5)
      refine bg (bP O (bg ?_))
      obtain ⟨bv, ov, cv, ev⟩ := gJ.rG (hr _ (SY)) (by omega)
      cases ev
      refine Z (dP aj bV O O (by omega)) (bg ?_)
      refine Z (fG (dA bG O) O (by first | exact gJ.mZ (hr _ (SY)) (by omega) | exact gJ.yA (hr _ (SY)) (by omega) | exact gJ.xX (hr _ (SY)) (by omega))) ?_
      refine bg (dS O func50 (Em (s := Ir) (by decide)) ?_)
      rintro _ _ ⟨rfl, rfl⟩
      refine jh O O (iJ O (bY (aK ?_)))
      refine dF (_) mG (Sub.nil _) (by (try dsimp only); exact ⟨by first | exact decide_eq_true_iff.trans ⟨fun h => (gZ hmv).2 ⟨by omega, h⟩, fun h => ((gZ hmv).1 h).2⟩ | exact iff_of_false (by decide) fun h => absurd ((gZ hmv).1 h).1 (by omega) | exact beq_iff_eq.trans ⟨fun h => (lg hmv hch).2 (by omega), fun h => by have := (lg hmv hch).1 h; omega⟩ | exact iff_of_true O ((eX hmv hch hop).2 ⟨by assumption, .inl (by show (mV (List.drop (Int.toNat 1) keys)).length = 0; omega)⟩) | exact decide_eq_true_iff.trans ⟨fun h => (eX hmv hch hop).2 ⟨by assumption, .inr ⟨by show (mV (List.drop (Int.toNat 1) keys)).length = 1; omega, h⟩⟩, fun h => ((eX hmv hch hop).1 h).2.elim (fun c => absurd c (by show ¬ (mV (List.drop (Int.toNat 1) keys)).length = 0; omega)) (fun c => c.2)⟩ | exact iff_of_false (by decide) fun h => ((eX hmv hch hop).1 h).2.elim (fun c => absurd c (by show ¬ (mV (List.drop (Int.toNat 1) keys)).length = 0; omega)) (fun c => absurd c.1 (by show ¬ (mV (List.drop (Int.toNat 1) keys)).length = 1; omega)) | exact iff_of_false (by decide) fun h => absurd ((eX hmv hch hop).1 h).1 (by assumption) | exact iff_of_false (by decide) (vV hmv hch hop), SY⟩)
     ·(try simp only [aA] at h5)
      refine bF (bF (bF (bF (ig O O (iJ O (bY (aK ?_)))))))
      refine dF (_) mG (Sub.nil _) (by (try dsimp only); exact ⟨by first | exact decide_eq_true_iff.trans ⟨fun h => (gZ hmv).2 ⟨by omega, h⟩, fun h => ((gZ hmv).1 h).2⟩ | exact iff_of_false (by decide) fun h => absurd ((gZ hmv).1 h).1 (by omega) | exact beq_iff_eq.trans ⟨fun h => (lg hmv hch).2 (by omega), fun h => by have := (lg hmv hch).1 h; omega⟩ | exact iff_of_true O ((eX hmv hch hop).2 ⟨by assumption, .inl (by show (mV (List.drop (Int.toNat 1) keys)).length = 0; omega)⟩) | exact decide_eq_true_iff.trans ⟨fun h => (eX hmv hch hop).2 ⟨by assumption, .inr ⟨by show (mV (List.drop (Int.toNat 1) keys)).length = 1; omega, h⟩⟩, fun h => ((eX hmv hch hop).1 h).2.elim (fun c => absurd c (by show ¬ (mV (List.drop (Int.toNat 1) keys)).length = 0; omega)) (fun c => c.2)⟩ | exact iff_of_false (by decide) fun h => ((eX hmv hch hop).1 h).2.elim (fun c => absurd c (by show ¬ (mV (List.drop (Int.toNat 1) keys)).length = 0; omega)) (fun c => absurd c.1 (by show ¬ (mV (List.drop (Int.toNat 1) keys)).length = 1; omega)) | exact iff_of_false (by decide) fun h => absurd ((eX hmv hch hop).1 h).1 (by assumption) | exact iff_of_false (by decide) (vV hmv hch hop), SY⟩)
    ·(try simp only [aA] at h4)
     have hmv : ¬ n.toList = uI.toList := h4
     refine lu [(1, _), (5, _), (15, _)] (fun (_ : Unit) => [(27, .bool (decide (n.toList = FH.toList ∨ n.toList = Ip.toList)))]) (fun (_ : Unit) W => V w0 W F) vZ ?_ ?_
     ·rintro _ w6 HJ
      dsimp only [List.cons_append, List.nil_append]
      refine bH O (fun h6 => ?_) (fun h6 => ?_)
      ·(try simp only [aA] at h6)
       have hch := h6
       refine aC (bP O (Z (jy (hr _ (HJ)) aj O) (Z (dX O O) (iJ O (bY (aK ?_))))))
       refine dF (_) mG (Sub.nil _) (by (try dsimp only); exact ⟨by first | exact decide_eq_true_iff.trans ⟨fun h => (gZ hmv).2 ⟨by omega, h⟩, fun h => ((gZ hmv).1 h).2⟩ | exact iff_of_false (by decide) fun h => absurd ((gZ hmv).1 h).1 (by omega) | exact beq_iff_eq.trans ⟨fun h => (lg hmv hch).2 (by omega), fun h => by have := (lg hmv hch).1 h; omega⟩ | exact iff_of_true O ((eX hmv hch hop).2 ⟨by assumption, .inl (by show (mV (List.drop (Int.toNat 1) keys)).length = 0; omega)⟩) | exact decide_eq_true_iff.trans ⟨fun h => (eX hmv hch hop).2 ⟨by assumption, .inr ⟨by show (mV (List.drop (Int.toNat 1) keys)).length = 1; omega, h⟩⟩, fun h => ((eX hmv hch hop).1 h).2.elim (fun c => absurd c (by show ¬ (mV (List.drop (Int.toNat 1) keys)).length = 0; omega)) (fun c => c.2)⟩ | exact iff_of_false (by decide) fun h => ((eX hmv hch hop).1 h).2.elim (fun c => absurd c (by show ¬ (mV (List.drop (Int.toNat 1) keys)).length = 0; omega)) (fun c => absurd c.1 (by show ¬ (mV (List.drop (Int.toNat 1) keys)).length = 1; omega)) | exact iff_of_false (by decide) fun h => absurd ((eX hmv hch hop).1 h).1 (by assumption) | exact iff_of_false (by decide) (vV hmv hch hop), HJ⟩)
      ·(try simp only [aA] at h6)
       have hch := h6
       refine lu [(1, _), (5, _)] (fun (_ : Unit) => [(33, .bool (decide (n.toList = BK.toList ∨ n.toList = FI.toList ∨ n.toList = Iq.toList)))]) (fun (_ : Unit) W => V w0 W F) ug ?_ ?_
       ·rintro _ w7 HK
        dsimp only [List.cons_append, List.nil_append]
        refine bH O (fun h7 => ?_) (fun h7 => ?_)
        ·(try simp only [aA] at h7)
         have hop := h7
         refine bT O ?_
         obtain ⟨bv, ov, cv, ev⟩ := gJ.rG (hr _ (HK)) (by omega)
         cases ev
         refine Z (dP aj bV O O (by omega)) ?_
         refine Z (fG (dA bG O) O (by first | exact gJ.mZ (hr _ (HK)) (by omega) | exact gJ.yA (hr _ (HK)) (by omega) | exact gJ.xX (hr _ (HK)) (by omega))) ?_
         refine dS O func50 (Em (s := ac1) (by decide)) ?_
         rintro _ _ ⟨rfl, rfl⟩
         refine jL O (fun h8 => ?_) (fun h8 => ?_)
         ·(try simp only [aA] at h8)
          refine bT O (Z (rH (hr _ (HK)) aj bV O O O (by omega)) ?_)
          refine dS O func51 (Po HK (fun W HW => gJ.from (hr _ (HW)) (by omega))) ?_
          rintro _ w9 ⟨kv9, rfl, Xo, H9⟩
          refine bP O (uf O O (uf O O (iJ O (fP O (aC (bP O (Z (jy (Xo _ (H9)) aj O) (Z (dX O O) (jJ O (fun h9 => ?_) (fun h9 => ?_))))))))))
          ·(try simp only [aA] at h9)
           refine bF (bF (bF (bF (mY (mY (mY (mY (bF (jh O O (iJ O (bY (aK ?_))))))))))))
           refine dF (_) mG (Sub.nil _) (by (try dsimp only); exact ⟨by first | exact decide_eq_true_iff.trans ⟨fun h => (gZ hmv).2 ⟨by omega, h⟩, fun h => ((gZ hmv).1 h).2⟩ | exact iff_of_false (by decide) fun h => absurd ((gZ hmv).1 h).1 (by omega) | exact beq_iff_eq.trans ⟨fun h => (lg hmv hch).2 (by omega), fun h => by have := (lg hmv hch).1 h; omega⟩ | exact iff_of_true O ((eX hmv hch hop).2 ⟨by assumption, .inl (by show (mV (List.drop (Int.toNat 1) keys)).length = 0; omega)⟩) | exact decide_eq_true_iff.trans ⟨fun h => (eX hmv hch hop).2 ⟨by assumption, .inr ⟨by show (mV (List.drop (Int.toNat 1) keys)).length = 1; omega, h⟩⟩, fun h => ((eX hmv hch hop).1 h).2.elim (fun c => absurd c (by show ¬ (mV (List.drop (Int.toNat 1) keys)).length = 0; omega)) (fun c => c.2)⟩ | exact iff_of_false (by decide) fun h => ((eX hmv hch hop).1 h).2.elim (fun c => absurd c (by show ¬ (mV (List.drop (Int.toNat 1) keys)).length = 0; omega)) (fun c => absurd c.1 (by show ¬ (mV (List.drop (Int.toNat 1) keys)).length = 1; omega)) | exact iff_of_false (by decide) fun h => absurd ((eX hmv hch hop).1 h).1 (by assumption) | exact iff_of_false (by decide) (vV hmv hch hop), H9⟩)
          ·(try simp only [aA] at h9)
           refine bg (bP O (bg (Z (jy (Xo _ (H9)) aj O) (bg (Z (dX O O) (bg (jJ O (fun h10 => ?_) (fun h10 => ?_))))))))
           ·(try simp only [aA] at h10)
            refine bg (bP O (bg ?_))
            obtain ⟨ahC, ahD, ahE, af6⟩ := gJ.rG (Xo _ (H9)) (by omega)
            cases af6
            refine Z (dP aj bV O O (by omega)) (bg ?_)
            refine Z (fG (dA bG O) O (by first | exact gJ.mZ (Xo _ (H9)) (by omega) | exact gJ.yA (Xo _ (H9)) (by omega) | exact gJ.xX (Xo _ (H9)) (by omega))) ?_
            refine bg (dS O func50 (Em (s := Ir) (by decide)) ?_)
            rintro _ _ ⟨rfl, rfl⟩
            refine bg (jh O O (ig O O (iJ O (bY (aK ?_)))))
            refine dF (_) mG (Sub.nil _) (by (try dsimp only); exact ⟨by first | exact decide_eq_true_iff.trans ⟨fun h => (gZ hmv).2 ⟨by omega, h⟩, fun h => ((gZ hmv).1 h).2⟩ | exact iff_of_false (by decide) fun h => absurd ((gZ hmv).1 h).1 (by omega) | exact beq_iff_eq.trans ⟨fun h => (lg hmv hch).2 (by omega), fun h => by have := (lg hmv hch).1 h; omega⟩ | exact iff_of_true O ((eX hmv hch hop).2 ⟨by assumption, .inl (by show (mV (List.drop (Int.toNat 1) keys)).length = 0; omega)⟩) | exact decide_eq_true_iff.trans ⟨fun h => (eX hmv hch hop).2 ⟨by assumption, .inr ⟨by show (mV (List.drop (Int.toNat 1) keys)).length = 1; omega, h⟩⟩, fun h => ((eX hmv hch hop).1 h).2.elim (fun c => absurd c (by show ¬ (mV (List.drop (Int.toNat 1) keys)).length = 0; omega)) (fun c => c.2)⟩ | exact iff_of_false (by decide) fun h => ((eX hmv hch hop).1 h).2.elim (fun c => absurd c (by show ¬ (mV (List.drop (Int.toNat 1) keys)).length = 0; omega)) (fun c => absurd c.1 (by show ¬ (mV (List.drop (Int.toNat 1) keys)).length = 1; omega)) | exact iff_of_false (by decide) fun h => absurd ((eX hmv hch hop).1 h).1 (by assumption) | exact iff_of_false (by decide) (vV hmv hch hop), H9⟩)
           ·(try simp only [aA] at h10)
            refine bF (bF (bF (bF (bg (ig O O (ig O O (iJ O (bY (aK ?_)))))))))
            refine dF (_) mG (Sub.nil _) (by (try dsimp only); exact ⟨by first | exact decide_eq_true_iff.trans ⟨fun h => (gZ hmv).2 ⟨by omega, h⟩, fun h => ((gZ hmv).1 h).2⟩ | exact iff_of_false (by decide) fun h => absurd ((gZ hmv).1 h).1 (by omega) | exact beq_iff_eq.trans ⟨fun h => (lg hmv hch).2 (by omega), fun h => by have := (lg hmv hch).1 h; omega⟩ | exact iff_of_true O ((eX hmv hch hop).2 ⟨by assumption, .inl (by show (mV (List.drop (Int.toNat 1) keys)).length = 0; omega)⟩) | exact decide_eq_true_iff.trans ⟨fun h => (eX hmv hch hop).2 ⟨by assumption, .inr ⟨by show (mV (List.drop (Int.toNat 1) keys)).length = 1; omega, h⟩⟩, fun h => ((eX hmv hch hop).1 h).2.elim (fun c => absurd c (by show ¬ (mV (List.drop (Int.toNat 1) keys)).length = 0; omega)) (fun c => c.2)⟩ | exact iff_of_false (by decide) fun h => ((eX hmv hch hop).1 h).2.elim (fun c => absurd c (by show ¬ (mV (List.drop (Int.toNat 1) keys)).length = 0; omega)) (fun c => absurd c.1 (by show ¬ (mV (List.drop (Int.toNat 1) keys)).length = 1; omega)) | exact iff_of_false (by decide) fun h => absurd ((eX hmv hch hop).1 h).1 (by assumption) | exact iff_of_false (by decide) (vV hmv hch hop), H9⟩)
         ·(try simp only [aA] at h8)
          refine dn (aK ?_)
          refine dF (_) mG (Sub.nil _) (by (try dsimp only); exact ⟨by first | exact decide_eq_true_iff.trans ⟨fun h => (gZ hmv).2 ⟨by omega, h⟩, fun h => ((gZ hmv).1 h).2⟩ | exact iff_of_false (by decide) fun h => absurd ((gZ hmv).1 h).1 (by omega) | exact beq_iff_eq.trans ⟨fun h => (lg hmv hch).2 (by omega), fun h => by have := (lg hmv hch).1 h; omega⟩ | exact iff_of_true O ((eX hmv hch hop).2 ⟨by assumption, .inl (by show (mV (List.drop (Int.toNat 1) keys)).length = 0; omega)⟩) | exact decide_eq_true_iff.trans ⟨fun h => (eX hmv hch hop).2 ⟨by assumption, .inr ⟨by show (mV (List.drop (Int.toNat 1) keys)).length = 1; omega, h⟩⟩, fun h => ((eX hmv hch hop).1 h).2.elim (fun c => absurd c (by show ¬ (mV (List.drop (Int.toNat 1) keys)).length = 0; omega)) (fun c => c.2)⟩ | exact iff_of_false (by decide) fun h => ((eX hmv hch hop).1 h).2.elim (fun c => absurd c (by show ¬ (mV (List.drop (Int.toNat 1) keys)).length = 0; omega)) (fun c => absurd c.1 (by show ¬ (mV (List.drop (Int.toNat 1) keys)).length = 1; omega)) | exact iff_of_false (by decide) fun h => absurd ((eX hmv hch hop).1 h).1 (by assumption) | exact iff_of_false (by decide) (vV hmv hch hop), HK⟩)
        ·(try simp only [aA] at h7)
         have hop := h7
         refine dn (aK ?_)
         refine dF (_) mG (Sub.nil _) (by (try dsimp only); exact ⟨by first | exact decide_eq_true_iff.trans ⟨fun h => (gZ hmv).2 ⟨by omega, h⟩, fun h => ((gZ hmv).1 h).2⟩ | exact iff_of_false (by decide) fun h => absurd ((gZ hmv).1 h).1 (by omega) | exact beq_iff_eq.trans ⟨fun h => (lg hmv hch).2 (by omega), fun h => by have := (lg hmv hch).1 h; omega⟩ | exact iff_of_true O ((eX hmv hch hop).2 ⟨by assumption, .inl (by show (mV (List.drop (Int.toNat 1) keys)).length = 0; omega)⟩) | exact decide_eq_true_iff.trans ⟨fun h => (eX hmv hch hop).2 ⟨by assumption, .inr ⟨by show (mV (List.drop (Int.toNat 1) keys)).length = 1; omega, h⟩⟩, fun h => ((eX hmv hch hop).1 h).2.elim (fun c => absurd c (by show ¬ (mV (List.drop (Int.toNat 1) keys)).length = 0; omega)) (fun c => c.2)⟩ | exact iff_of_false (by decide) fun h => ((eX hmv hch hop).1 h).2.elim (fun c => absurd c (by show ¬ (mV (List.drop (Int.toNat 1) keys)).length = 0; omega)) (fun c => absurd c.1 (by show ¬ (mV (List.drop (Int.toNat 1) keys)).length = 1; omega)) | exact iff_of_false (by decide) fun h => absurd ((eX hmv hch hop).1 h).1 (by assumption) | exact iff_of_false (by decide) (vV hmv hch hop), HK⟩)
       ·skip
        refine iV (Z (fJ O O) (fP O (bH O (fun h11 => ?_) (fun h11 => ?_))))
        ·(try simp only [aA] at h11)
         have hop := h11
         refine dn ?_
         refine dF (()) ?_ ?_ ?_
         ·exact (Sub.jG O (by first | exact rU (beq_iff_eq.2 (by assumption)) (.inl (by assumption)) | exact rU (beq_iff_eq.2 (by assumption)) (.inr (.inl (by assumption))) | exact Zv (by assumption) (by assumption) beq_iff_eq) (Sub.nil _))
         ·exact ug
         ·(try dsimp only)
          first | done | exact HJ
        ·(try simp only [aA] at h11)
         have hop := h11
         refine iV (Z (fJ O O) (fP O (bH O (fun h12 => ?_) (fun h12 => ?_))))
         ·(try simp only [aA] at h12)
          have hop := h12
          refine dn ?_
          refine dF (()) ?_ ?_ ?_
          ·exact (Sub.jG O (by first | exact rU (beq_iff_eq.2 (by assumption)) (.inl (by assumption)) | exact rU (beq_iff_eq.2 (by assumption)) (.inr (.inl (by assumption))) | exact Zv (by assumption) (by assumption) beq_iff_eq) (Sub.nil _))
          ·exact ug
          ·(try dsimp only)
           first | done | exact HJ
         ·(try simp only [aA] at h12)
          have hop := h12
          refine aC (Z (fJ O O) (iJ O (bY ?_)))
          refine dF (()) ?_ ?_ ?_
          ·exact (Sub.jG O (by first | exact rU (beq_iff_eq.2 (by assumption)) (.inl (by assumption)) | exact rU (beq_iff_eq.2 (by assumption)) (.inr (.inl (by assumption))) | exact Zv (by assumption) (by assumption) beq_iff_eq) (Sub.nil _))
          ·exact ug
          ·(try dsimp only)
           first | done | exact HJ
     ·skip
      refine iV (Z (fJ O O) (fP O (bH O (fun h13 => ?_) (fun h13 => ?_))))
      ·(try simp only [aA] at h13)
       have hch := h13
       refine dn ?_
       refine dF (()) ?_ ?_ ?_
       ·exact (Sub.jG O (by first | exact rU (beq_iff_eq.2 (by assumption)) (.inl (by assumption)) | exact ab2 (by assumption) beq_iff_eq) (Sub.nil _))
       ·exact vZ
       ·(try dsimp only)
        first | done | exact SY
      ·(try simp only [aA] at h13)
       have hch := h13
       refine aC (Z (fJ O O) (iJ O (bY ?_)))
       refine dF (()) ?_ ?_ ?_
       ·exact (Sub.jG O (by first | exact rU (beq_iff_eq.2 (by assumption)) (.inl (by assumption)) | exact ab2 (by assumption) beq_iff_eq) (Sub.nil _))
       ·exact vZ
       ·(try dsimp only)
        first | done | exact SY
end
structure VM where
  marks : Int → Option Int
  fk : Int
  fc : Int
  name : ByteArray
  keys : List Int
  n : Int
  typed : List Int
  frm : Int
def zB (n : ByteArray) : Prop := n.toList = FI.toList ∨ n.toList = Zn.toList ∨ n.toList = Zo.toList ∨ n.toList = Zq.toList
def rV (n : ByteArray) : Prop := n.toList = Zm.toList ∨ n.toList = FH.toList ∨ n.toList = EX.toList ∨ n.toList = BK.toList ∨ n.toList = Zp.toList
instance (n : ByteArray) : Decidable (zB n) := by unfold zB; infer_instance
instance (n : ByteArray) : Decidable (rV n) := by unfold rV; infer_instance
def Zw (M : VM) : Prop := M.keys.length * 4 ≤ 140737488355328 ∧ M.typed.length ≤ 1024 ∧ (M.name.toList = [] ∨ ((zB M.name ∨ rV M.name) ∧ nT M.name M.keys = 0 ∧ 1 ≤ M.n ∧ M.n ≤ 1000000))
def DR (m : Int → Option Int) : Int → Option Value := fun k => (m k).map (.int .i64)
def pR (m : Nat) (M : VM) : HP := uZ fun (x : Nat × Value × Value) => fact (Zw M) • dW m (.cells #[.map (some x.1), .int .i32 M.fk, .int .i32 M.fc, .string M.name, x.2.1, .int .i64 M.n, x.2.2, .int .i64 M.frm] 119 (0, 0)) • gX Xa x.1 (DR M.marks) • oI .i32 x.2.1 M.keys • oI .i32 x.2.2 M.typed
def VM.new : VM := ⟨fun _ => none, 0, 0, .empty, [], 0, [], -1⟩
theorem VM.Pm : Zw VM.new := ⟨by decide, by decide, .inl (by rw [ByteArray.toList_eq]; rfl)⟩
section
variable {w0 w : World} {F : HP} {m : Nat} {M : VM}
theorem V.vm (H : V w0 w (pR m M • F)) : ∃ mb kv tv, Zw M ∧ V w0 w (dW m (.cells #[.map (some mb), .int .i32 M.fk, .int .i32 M.fc, .string M.name, kv, .int .i64 M.n, tv, .int .i64 M.frm] 119 (0, 0)) • gX Xa mb (DR M.marks) • oI .i32 kv M.keys • oI .i32 tv M.typed • F) := by
  obtain ⟨⟨mb, kv, tv⟩, H⟩ := H.nN
  obtain ⟨h, H⟩ := H.flat.fact
  exact ⟨mb, kv, tv, h, H.of_eq (by simp only [dD])⟩
theorem V.EY {mb : Nat} {kv tv : Value} (h : Zw M) (H : V w0 w (dW m (.cells #[.map (some mb), .int .i32 M.fk, .int .i32 M.fc, .string M.name, kv, .int .i64 M.n, tv, .int .i64 M.frm] 119 (0, 0)) • gX Xa mb (DR M.marks) • oI .i32 kv M.keys • oI .i32 tv M.typed • F)) : V w0 w (pR m M • F) :=
  V.jv (mb, kv, tv) (V.deep (V.lJ h (H.of_eq (by simp only [dD]))))
theorem La (H : V w0 w F) : V w0 w (oI .i32 (.slice none 0 0) [] • F) := V.lM (e := 21) (k := .i32) (l := []) (H.jw none)
theorem V.ac2 {mb : Nat} {kv : Value} (h : Zw M) (ht : M.typed = []) (H : V w0 w (dW m (.cells #[.map (some mb), .int .i32 M.fk, .int .i32 M.fc, .string M.name, kv, .int .i64 M.n, .slice none 0 0, .int .i64 M.frm] 119 (0, 0)) • gX Xa mb (DR M.marks) • oI .i32 kv M.keys • F)) : V w0 w (pR m M • F) :=
  V.EY h (by rw [ht]; exact (La H).of_eq (by ac_rfl))
theorem DT (H : V w0 w (pR m M • F)) : iI prog 69 #[.pointer (some ⟨m, 0, none⟩)] w fun v w' => v = .bool false ∧ w = w' := by
 refine jr func69 ntmps69 ?_
 refine jR O (aO ?_)
 obtain ⟨Rk, Rl, Rn, zC, zK⟩ := (H).vm
 refine aC (bP O (Z (iR iK O O) (SS O (fun h1 => ?_))))
 (try simp only [aA] at h1)
 refine bg (bP O (bg (dL O (bg (bJ 0 gY O sizeOf113 O (bg (fV mg O (zK).get.2 O (bg (Z (Xg mg O O) (ig O O (fC O (dK results69 O ?_))))))))))))
 exact ⟨O, O⟩
theorem zD (H : V w0 w F) : iI prog 22 #[] w fun v w' => ∃ m, v = .pointer (some ⟨m, 0, none⟩) ∧ V w0 w' (pR m VM.new • F) := by
  refine WB func22 ntmps22 ?_
  refine jR O (iV (jV (kP (zo .i32) H) ?_))
  rintro _ w1 ⟨b1, rfl, H1⟩
  refine Z (eP (zl := [.map none, .int .i32 0, .int .i32 0, .string .empty, .slice none 0 0, .int .i64 0, .slice none 0 0, .int .i64 0]) (pl := [(0, 1), (1, 2), (3, 4), (7, 1)]) [_, _, _, _, _, _, _, _] gY zeroValue119 O (fun w => by kernel_rfl) O (.on (.zero (zs := [.int .i32 0, .int .i32 0]) O (.zero (zs := [.string .empty, .slice none 0 0, .int .i64 0, .slice none 0 0]) O (.on .nil)))) O) ?_
  refine jV (jH (l := [_, _, _, _, _, _, _, _]) H1 O O) ?_
  rintro _ w2 ⟨b2, rfl, H2⟩
  refine fC O (dK results22 O ?_)
  exact ⟨_, O, V.EY VM.Pm ((La (La H2)).of_eq (by ac_rfl))⟩
def VM.at (M : VM) (r : Int) : Int := (M.marks r).getD (-1)
theorem Ro {r : Int} (H : V w0 w (pR m M • F)) : iI prog 183 #[.pointer (some ⟨m, 0, none⟩), .int .i32 r] w fun v w' => v = .int .i64 (M.at r) ∧ V w0 w' (pR m M • F) := by
  refine oN func183 ntmps183 ?_
  refine jR O (aO (bT O (dS O func69 (DT H) ?_)))
  rintro _ _ ⟨rfl, rfl⟩
  refine iL (qH (gQ (aO (aO ?_))))
  obtain ⟨Rk, Rl, Rn, zC, zK⟩ := (H).vm
  refine aC (nK O O (bJ 0 gY O sizeOf113 O (fV mg O (zK).get.2 O (bP O (Z (DC (zK.f2) mg bG zeroValue3 O O) (bP O (uf O O (uf O O (iJ O (fP O (bT O (jL O (fun h1 => ?_) (fun h1 => ?_)))))))))))))
  · (try simp only [aA] at h1)
    try (exfalso; first | contradiction | omega)
    all_goals
      obtain ⟨z, hz⟩ := Option.isSome_iff_exists.1 h1
      obtain ⟨a, ha⟩ : ∃ a, M.marks r = some a := by cases hq : M.marks r with | none => (unfold DR at hz; rw [hq] at hz; cases hz) | some a => exact ⟨a, rfl⟩
      refine bT O (fC O (aB (dK results183 O ?_)))
      have QB := zK.f4.f4.f4.f4
      have P7 := V.EY (M := M) zC QB
      exact ⟨by unfold VM.at; rw [ha]; first | rfl | (unfold DR; rw [ha]; rfl), P7⟩
  · (try simp only [aA] at h1)
    try (exfalso; first | contradiction | omega)
    all_goals
      have ha : M.marks r = none := by cases hq : M.marks r with | none => rfl | some a => (have h9 := h1; unfold DR at h9; rw [hq] at h9; cases h9)
      refine gQ (jP O (dK results183 O ?_))
      have YO := zK.f4.f4.f4.f4
      have YP := V.EY (M := M) zC YO
      exact ⟨by unfold VM.at; rw [ha]; first | rfl | (unfold DR; rw [ha]; rfl), YP⟩
theorem Pv (H : V w0 w (pR m M • F)) : iI prog 38 #[.pointer (some ⟨m, 0, none⟩)] w fun v w' => ∃ c, v = .pointer (some ⟨c, 0, none⟩) ∧ V w0 w' (pR c M • pR m M • F) := by
 refine jr func38 ntmps38 ?_
 refine jR O (aO (bT O (dS O func69 (DT H) ?_)))
 rintro _ _ ⟨rfl, rfl⟩
 refine iL (qH (gQ (aO ?_)))
 obtain ⟨Rk, Rl, Rn, zC, zK⟩ := (H).vm
 have hvk := zC.1
 have hvt := zC.2.1
 refine aC (nK O O (Z (dM gY O sizeOf119 O O (zK).get.2) (jV (iy (l := [_, _, _, _, _, _, _, _]) zK zeroValue119 O) ?_)))
 rintro _ w3 ⟨b3, rfl, H3⟩
 refine aI (dw 0 (l' := [_, _, _, _, _, _, _, _]) (us := [_, _, _, _, _, _, _, _]) H3 sizeOf119 O O O (aG (aG (aG (aG (aX (by first | rfl | exact Rd.one ((H3.f4).kN)) (aG (aX (by first | rfl | exact Rd.one ((H3.f5).kN)) (aG bQ)))))))) O O) ?_
 rintro _ w4 H4
 refine zk7 (jV (kP (zo .i32) H4) ?_)
 rintro _ w5 ⟨b5, rfl, H5⟩
 refine bJ 0 gY O sizeOf113 O (aI (fU 0 (l' := [_, _, _, _, _, _, _, _]) H5.f2 sizeOf113 O O (by first | rfl | assumption) O O) ?_)
 rintro _ w6 H6
 refine qR (bT O (dL O (bJ 0 gY O sizeOf113 O (fV mg O (H6.f3).get.2 O (jV (DF H6.f4 mg O) ?_)))))
 rintro _ w7 ⟨it7, mi, rfl, H7⟩
 refine iL (aY ?_)
 obtain ⟨R8, hR8, HR8⟩ := V.JJ (H7.f2.f3.f3)
 have HX0 := HR8
 rw [← QW (DR M.marks)] at HX0
 refine gV [(0, _), (3, _), (17, _)] (fun (⟨S, n⟩ : List Int × Nat) => []) (fun (⟨S, n⟩ : List Int × Nat) W => V w0 W (ER Xa Rk it7 (DR M.marks) S n • gX Xa b5 (Pe (DR M.marks) S) • dW b3 (.cells #[.map (some b5), .int .i32 M.fk, .int .i32 M.fc, .string M.name, Rl, .int .i64 M.n, Rn, .int .i64 M.frm] 119 (0, 0)) • R8)) (fun (⟨S, n⟩ : List Int × Nat) => n) (([], _)) vZ (Sub.nil _) HX0 ?_
 rintro ⟨S, n⟩ w9 HL
 dsimp only [List.cons_append, List.nil_append]
 refine iV (jV (Fz HL O) ?_)
 rintro _ w10 ⟨ox, Sx, mx, rfl, hNx, pW⟩
 refine Z (Y1 O) (qR (bH O (fun h1 => ?_) (fun h1 => ?_)))
 ·(try simp only [aA] at h1)
  try (exfalso; first | contradiction | omega)
  all_goals
   obtain ⟨⟨a, u⟩, rfl⟩ := Option.isSome_iff_exists.1 h1
   obtain ⟨ha, hns, hlt, rfl⟩ := hNx
   refine gQ (aY (iV ?_))
   refine Z (O8 (pW) (by assumption) O) ?_
   refine uf O O (uf O O (iJ O (fP O (aC (bJ 0 gY O sizeOf113 O (fV mg O (pW.f3).get.2 O (jO O O (aI (xw pW.f2 mg bG O O O) ?_))))))))
   rintro _ FX sW
   refine bY (aK ?_)
   have hres := NU (S := S) ha
   refine dU ((S ++ [a], mx)) ?_ ?_ ?_ ?_
   ·exact (Sub.nil _)
   ·exact vZ
   ·(try dsimp only)
    first | done | exact (by rw [hres]; exact sW.f3.f2.f3)
   ·(try dsimp only); omega
 ·(try simp only [aA] at h1)
  try (exfalso; first | contradiction | omega)
  all_goals
   obtain rfl := Ij (o := ox) (by simp [h1])
   obtain ⟨rfl, rfl, hall⟩ := hNx
   refine dO (aN ?_)
   have HX := pW.f3.f2.f3
   rw [QX hall] at HX
   have Ph := HX.f2
   have Pj := Ph.Ih
   subst hR8
   refine aN (bn (aW (aO ?_)))
   have ab3 := Pj.drew
   have zF := V.kp (ab3.f6.f6.f6.f6.f6.f6)
   refine y9 [4, 10] zF O (iU 0 O zF O (jY 1 O zF O (iq 2 O zF 3 gY O sizeOf117 O (iq 3 O zF 1 underlying117 O dh O (jQ 4 O zF (fun W hW => kF aj O ((Kp.h hW).f4).get.2 O) (iU 6 O zF O (jY 7 O zF O (iq 8 O zF 3 gY O sizeOf117 O (iq 9 O zF 3 underlying117 O dh O (jQ 10 O zF (fun W hW => kF aj O ((Kp.h hW).f4).get.2 O) (nD 5 O (xW O func71 (oz ab3 (fun W HW => (HW.f5).kN) (by omega))) ?_)))))))))))
   rintro u14 P6 Az
   have Gn := V.kp (Az.f7.f7.f7.f7.f7.f7.f7)
   refine eG Gn (fun W hW => (Kp.h hW).right.f6.f6.f6.f6.f6.f6) ?_
   refine nD 11 O (xW O func71 (oz Az (fun W HW => (HW.f7).kN) (by omega))) ?_
   rintro u15 Qu zI
   have yg := V.kp (zI.f8.f8.f8.f8.f8.f8.f8.f8)
   refine gU yg (by kernel_rfl) ?_
   refine iq 12 O yg 3 gY O sizeOf117 O (iq 13 O yg 1 underlying117 O dh O ?_)
   refine gy 14 O (by kernel_rfl) (fU 4 (l' := [_, _, _, _, _, _, _, _]) zI.f5 dh O O (by first | rfl | exact Rd.one ((zI.f2).aQ)) O O) ?_
   rintro _ w16 uY
   have Dx := V.kp (uY.f8.f8.f8.f8.f8.f8.f8.f8)
   refine gU Dx (by kernel_rfl) ?_
   refine iq 15 O Dx 3 gY O sizeOf117 O (iq 16 O Dx 3 underlying117 O dh O ?_)
   refine gy 17 O (by kernel_rfl) (fU 6 (l' := [_, _, _, _, _, _, _, _]) uY dh O O (by first | rfl | exact Rd.one ((uY.f2).aQ)) O O) ?_
   rintro _ Yr EH
   have I4 := V.kp (EH.f8.f8.f8.f8.f8.f8.f8.f8)
   refine gU I4 (by kernel_rfl) ?_
   refine ru (aW (jP O (dK results38 O ?_)))
   have ac3 := EH.f3
   have ac4 := ac3.lM
   have Y6 := ac4.f3
   have Ul := Y6.lM
   have Zx := Ul.f8.f8.f6.f8
   have Zy := V.EY (M := M) zC Zx
   exact ⟨_, O, V.EY zC Zy.f2.f3.f5.f5⟩
end
end Go.Proofs.YtpdeedplgmbopaaGreatDoor
end
