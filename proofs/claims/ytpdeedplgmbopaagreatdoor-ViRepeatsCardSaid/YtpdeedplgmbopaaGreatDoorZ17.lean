import Derived.Test.YtpdeedplgmbopaaGreatDoorZ4
import Derived.Test.YtpdeedplgmbopaaGreatDoorZ16
import Derived.Test.YtpdeedplgmbopaaGreatDoorZ6
import Derived.Test.YtpdeedplgmbopaaGreatDoorZ9
import Derived.Test.YtpdeedplgmbopaaGreatDoorZ7
import Derived.Test.YtpdeedplgmbopaaGreatDoorZ3
import Derived.Test.YtpdeedplgmbopaaGreatDoorZ10
import Derived.Test.YtpdeedplgmbopaaGreatDoorZ15
import Derived.Test.YtpdeedplgmbopaaGreatDoorZ5
import Derived.Test.YtpdeedplgmbopaaGreatDoorZ2
set_option linter.unusedSimpArgs false
set_option linter.unusedVariables false
/- Texts of mine, joined, their names in short: VC HistF RHist RWalk VNm VWa VM FieldVal. -/
section
namespace Go.Proofs.YtpdeedplgmbopaaGreatDoor
open Go.RowKit
open _root_.Go.Proofs.Tryz
def Gi (st : Int) (n i : Int) : Int := if st = 1 then n - i else i + 1
theorem Ny {st n i : Int} (h : st = 1 ∨ st = -1) : Gi st n (i + st) + 1 = Gi st n i := by
  unfold Gi; rcases h with rfl | rfl
  · rw [if_pos rfl, if_pos rfl]; omega
  · rw [if_neg (by decide), if_neg (by decide)]; omega
theorem Jq {st n i : Int} (h : st = 1 ∨ st = -1) (h0 : 0 ≤ i) (h1 : i < n) : 0 < Gi st n i ∧ Gi st n i ≤ n := by
  unfold Gi; rcases h with rfl | rfl
  · rw [if_pos rfl]; omega
  · rw [if_neg (by decide)]; omega
theorem abD (key : Int) : uG key = 1 ∨ uG key = -1 := by unfold uG; split <;> simp
theorem WT {c m x : Int} (h : ¬ x = c) : Gh c m x = some m := if_neg h
theorem WU {c m x : Int} (h : x = c) (h2 : 0 < m - 1) : Gh c m x = some (m - 1) := by unfold Gh; rw [if_pos h, if_neg (by omega)]
theorem Zu {c m x : Int} (h : x = c) (h2 : m - 1 ≤ 0) : Gh c m x = none := by unfold Gh; rw [if_pos h, if_pos (by omega)]
theorem EJ {l : List Int} {x n key c i : Int} (h : zf (uG key) (Gh c) l n (x + uG key) = some i) : Jo l x key c n = (if key = 116 ∨ key = 84 then i - uG key else i, decide (0 < uG key), true) := by unfold Jo; rw [h]
theorem J8 {l : List Int} {x n key c : Int} (h : zf (uG key) (Gh c) l n (x + uG key) = none) : Jo l x key c n = (0, false, false) := by unfold Jo; rw [h]
section
variable {w0 w : World} {F : HP} {v : Value} {l : List Int} {x n key c r : Int} {s : ByteArray}
theorem WV (H : V w0 w F) (hr : jh w0 F .i32 v l) (hx : 0 ≤ x ∧ x ≤ l.length) (hn : 1 ≤ n) (hn2 : n ≤ 9223372036854775807) (Yk : l.length ≤ 4611686018427387904) : iQ prog 42 #[v, .int .i64 x, .int .i32 key, .int .i32 c, .int .i64 n] w fun u w' => u = Zt (Jo l x key c n) ∧ V w0 w' F := by
 have hst := abD key
 refine ahP func42 ntmps42 ?_
 refine iy (gU O (gU O (dZ O (ku O ?_))))
 refine kL [(0, _), (1, _), (2, _), (3, _), (4, _)] (fun (_ : Unit) => [(13, .int .i64 (uG key))]) (fun (_ : Unit) W => V w0 W F) sb5 ?_ ?_
 ·rintro _ w1 HL
  dsimp only [List.cons_append, List.nil_append]
  refine aI (bM O (bJ O (aQ (fQ O O (by omega)) (dZ O (bf ?_)))))
  refine iC [(0, _), (2, _), (3, _), (13, _)] (fun (⟨i, m⟩ : Int × Int) => [(4, .int .i64 m), (14, .int .i64 i)]) (fun (⟨i, m⟩ : Int × Int) W => ((-1 ≤ i ∧ i ≤ l.length + 1) ∧ (1 ≤ m ∧ m ≤ n) ∧ zf (uG key) (Gh c) l n (x + uG key) = zf (uG key) (Gh c) l m i) ∧ V w0 W F) (fun (⟨i, m⟩ : Int × Int) => (Gi (uG key) l.length i).toNat) ((x + uG key, n)) JF uh ⟨⟨by omega, by omega, O⟩, HL⟩ ?_
  rintro ⟨i, m⟩ w2 ⟨⟨hi, hm, hE⟩, HL⟩
  dsimp only [List.cons_append, List.nil_append]
  have hms := Ny (n := l.length) (i := i) hst
  have hmp := fun h0 h1 => Jq (n := l.length) (i := i) hst h0 h1
  refine aI (bM O (aQ (lI O O) (jm O (fun h1 => ?_) (fun h1 => ?_))))
  ·(try simp only [Z] at h1)
   refine aY (bJ O (aY (bJ O (aY (aQ (iT (hr _ (HL)) ah O) (aY (aQ (gW O O) (je O O (jr O (fun h2 => ?_) (fun h2 => ?_))))))))))
   ·(try simp only [Z] at h2)
    refine fV (aI (bf (aI (bM O (bJ O ?_)))))
    obtain ⟨bv, ov, cv, ev⟩ := fJ.rW (hr _ (HL)) (by omega)
    cases ev
    refine aQ (dM ah bK O O (by omega)) ?_
    refine aQ (fF (dA bC O) O (by first | exact fJ.lX (hr _ (HL)) (by omega) | exact fJ.xJ (hr _ (HL)) (by omega) | exact fJ.xH (hr _ (HL)) (by omega))) ?_
    refine bJ O (aQ (gY O O) (jr O (fun h3 => ?_) (fun h3 => ?_)))
    ·(try simp only [Z] at h3)
     have hf := WT (m := m) h3
     refine dR (aO (bG (aX (aB (jX O O (aQ (fQ O O (by omega)) (gU O (bZ ?_))))))))
     refine dX (_, _) uh JF (by (try dsimp only); exact ⟨⟨by omega, by omega, hE.trans (Nu hst (by omega) (by omega) hf)⟩, HL⟩) ?_
     ·(try dsimp only); have := hmp (by omega) (by omega); omega
    ·(try simp only [Z] at h3)
     have heq : l.getD i.toNat 0 = c := by have h9 := h3; omega
     refine fV (aI (bM O (aQ (jk O O (by omega)) (dZ O (bM O (aQ (eX O O) (jr O (fun h4 => ?_) (fun h4 => ?_))))))))
     ·(try simp only [Z] at h4)
      have hf := WU heq h4
      refine dR (aO (bG (aX (aB (jX O O (aQ (fQ O O (by omega)) (gU O (bZ ?_))))))))
      refine dX (_, _) uh JF (by (try dsimp only); exact ⟨⟨by omega, by omega, hE.trans (Nu hst (by omega) (by omega) hf)⟩, HL⟩) ?_
      ·(try dsimp only); have := hmp (by omega) (by omega); omega
     ·(try simp only [Z] at h4)
      have hf := Zu heq h4
      refine fV (aI (bM O (aQ (eF O O) (jm O (fun h5 => ?_) (fun h5 => ?_)))))
      ·(try simp only [Z] at h5)
       refine bn (bn (je O O (iE (C9 (aB (jX O O (aQ (jk O O (by omega)) (dZ O (bM O (bJ O (aQ (eX O O) (gU O (gU O (fA O (aU (aA (aA (aU (aA ?_)))))))))))))))))))
       refine iP (.inl O) results42 O O O ?_
       refine ⟨?_, HL⟩
       rw [EJ (hE.trans (FB (by omega) (by omega) hf))]
       first | (rw [if_pos (by omega)]; rfl) | (rw [if_neg (by omega)]; rfl)
      ·(try simp only [Z] at h5)
       refine aY (bJ O (aY (aQ (eF O O) (fG O O (jr O (fun h6 => ?_) (fun h6 => ?_))))))
       ·(try simp only [Z] at h6)
        refine aB (jX O O (aQ (jk O O (by omega)) (dZ O (bM O (bJ O (aQ (eX O O) (gU O (gU O (fA O (aU (aA (aA (aU (aA ?_))))))))))))))
        refine iP (.inl O) results42 O O O ?_
        refine ⟨?_, HL⟩
        rw [EJ (hE.trans (FB (by omega) (by omega) hf))]
        first | (rw [if_pos (by omega)]; rfl) | (rw [if_neg (by omega)]; rfl)
       ·(try simp only [Z] at h6)
        refine fV (bM O (bJ O (aQ (eX O O) (gU O (gU O (fA O (aU (aA (aA (aU (aA ?_)))))))))))
        refine iP (.inl O) results42 O O O ?_
        refine ⟨?_, HL⟩
        rw [EJ (hE.trans (FB (by omega) (by omega) hf))]
        first | (rw [if_pos (by omega)]; rfl) | (rw [if_neg (by omega)]; rfl)
   ·(try simp only [Z] at h2)
    refine dR (aO (aO (bG (aX (iy (gU O (gU O (fA O ?_))))))))
    refine iP (.inl O) results42 O O O ?_
    exact ⟨by rw [J8 (hE.trans (Fz (by omega)))]; rfl, HL⟩
  ·(try simp only [Z] at h1)
   refine bn (bn (bn (bn (fG O O (iE (oh (dR (aO (aO (bG (aX (iy (gU O (gU O (fA O ?_)))))))))))))))
   refine iP (.inl O) results42 O O O ?_
   exact ⟨by rw [J8 (hE.trans (Fz (by omega)))]; rfl, HL⟩
 ·skip
  refine bM O (aQ (eF O O) (jm O (fun h7 => ?_) (fun h7 => ?_)))
  ·(try simp only [Z] at h7)
   refine bn (bn (je O O (iE (C9 (aB (gU O (bZ ?_)))))))
   refine dD (()) ?_ ?_ ?_
   ·exact (Sub.jW O (by congr 1; unfold uG; first | rw [if_pos (by omega)] | rw [if_neg (by omega)]) (Sub.nil _))
   ·exact sb5
   ·(try dsimp only)
    first | done | exact H
  ·(try simp only [Z] at h7)
   refine aY (bJ O (aY (aQ (eF O O) (fG O O (jr O (fun h8 => ?_) (fun h8 => ?_))))))
   ·(try simp only [Z] at h8)
    refine aB (gU O (bZ ?_))
    refine dD (()) ?_ ?_ ?_
    ·exact (Sub.jW O (by congr 1; unfold uG; first | rw [if_pos (by omega)] | rw [if_neg (by omega)]) (Sub.nil _))
    ·exact sb5
    ·(try dsimp only)
     first | done | exact H
   ·(try simp only [Z] at h8)
    refine dh ?_
    refine dD (()) ?_ ?_ ?_
    ·exact (Sub.jW O (by congr 1; unfold uG; first | rw [if_pos (by omega)] | rw [if_neg (by omega)]) (Sub.nil _))
    ·exact sb5
    ·(try dsimp only)
     first | done | exact H
end
end Go.Proofs.YtpdeedplgmbopaaGreatDoor
end
section
namespace Go.Proofs.YtpdeedplgmbopaaGreatDoor
open Go.RowKit
def ahn (l : List tu) : Int := if l.any (fun x => decide (16384 < x.1.size)) then 3 else if l.any (fun x => decide (x.2 < 0)) then 1 else 0
section
variable {P : Program} {L : List (Nat × Value)} {w0 w : World} {F : HP} {p : Nat} {hl l : List tu} {base most : Int} {v : Value}
def aes (hl : List tu) (most : Int) : Nat := hl.length - most.toNat
def aiY (hl : List tu) (most : Int) (l : List tu) : List tu := if ahn l = 0 then (hl ++ l).drop (aes (hl ++ l) most) else hl
def aiZ (hl : List tu) (base most : Int) (l : List tu) : Int := if ahn l = 0 then base + aes (hl ++ l) most else base
end
def ajA (l : List tu) : List tu := aiY [] 4096 l
def ajB (l : List tu) : Int := aiZ [] 1 4096 l
end Go.Proofs.YtpdeedplgmbopaaGreatDoor
end
section
namespace Go.Proofs.YtpdeedplgmbopaaGreatDoor
open Go.RowKit
open _root_.Go.Proofs.Tryz
theorem FN.cut {I : Hp} {v : Value} {sz n : Nat} {xs : List Value} (hr : FN I sz v n xs) {l h : Nat} (h1 : l ≤ h) (h2 : h ≤ n) : FN I sz (sV sz l h v) (h - l) ((xs.drop (l * sz)).take ((h - l) * sz)) := by
  obtain ⟨hl, a, c, rfl, hc1, hc2, hc⟩ := hr
  refine ⟨?_, DU a l c sz, c - l, rfl, by omega, by omega, fun hp => ?_⟩
  · rw [List.length_take, List.length_drop, hl, ← Nat.sub_mul]
    exact Nat.min_eq_left (Nat.mul_le_mul_right _ (by omega))
  · obtain ⟨b, o, cs, e, fr, rfl, hI, hcell⟩ := hc (by omega)
    have : ¬ c = l := by omega
    refine ⟨b, o + l * sz, cs, e, fr, by simp [DU, this, vw], hI, fun j hj => ?_⟩
    have e1 : l * sz + (h - l) * sz = h * sz := by rw [← Nat.add_mul]; congr 1; omega
    have e2 : h * sz ≤ n * sz := Nat.mul_le_mul_right _ h2
    have := hcell (l * sz + j) (by omega)
    rw [Nat.add_assoc, this, List.getD_eq_getElem?_getD, List.getD_eq_getElem?_getD, List.getElem?_take, if_pos hj, List.getElem?_drop]
def hlK (v : Value) (l : List tu) : HP := know (fun I => FN I 2 v l.length (l.flatMap DJ)) fun _ _ hl h => h.mono hl
def kQ (p : Nat) (hl : List tu) (base most : Int) : HP := xQ fun (v : Value) => fact (HOk hl base most) • eP p (.cells #[v, .int .i64 base, .int .i64 most] 155 (0, 0)) • hlK v hl
section
variable {P : Program} {L : List (Nat × Value)} {w0 w : World} {F : HP} {p : Nat} {hl l : List tu} {base most : Int} {v : Value}
theorem V.Nz (H : V w0 w (hlK v l • F)) : Rd w 2 v l.length (l.flatMap DJ) := let ⟨I, h, hI⟩ := H.uZ; h.rd hI
theorem V.Qd (H : V w0 w (Row 218 2 v l.length (l.flatMap DJ) • F)) : V w0 w (hlK v l • F) := by
  have hl := H.yw
  rcases H.uO with ⟨a, rfl, h1, h2, H1⟩ | ⟨g, o, c, cur, rfl, h2, h3, h4, h5, H1⟩
  · exact H1.zn fun I => ⟨hl, a, 0, by rw [h1], by omega, by decide, fun h => by omega⟩
  · exact H1.freeze.GY (rX (fun I hI => ⟨hl, _, c, rfl, h2, h3, fun _ => ⟨g, o, cur, _, (0, 0), rfl, hI, h5⟩⟩) F)
theorem V.Ym (H : V w0 w (kQ p hl base most • F)) : ∃ v, HOk hl base most ∧ V w0 w (eP p (.cells #[v, .int .i64 base, .int .i64 most] 155 (0, 0)) • hlK v hl • F) := by
  obtain ⟨v, H⟩ := H.oN
  obtain ⟨h, H⟩ := H.flat.fact
  exact ⟨v, h, H.flat⟩
theorem V.IC (h : HOk hl base most) (H : V w0 w (eP p (.cells #[v, .int .i64 base, .int .i64 most] 155 (0, 0)) • hlK v hl • F)) : V w0 w (kQ p hl base most • F) :=
  V.jV v (V.deep (V.mW h H.deep))
theorem afs {l : List tu} {k : Nat} (hk : k < l.length) : (l.flatMap DJ).getD (k * 2 + 0) undef = .string (l.getD k default).1 := by
  have h := congrArg (fun x => x.getD 0 undef) (xY PO hk default)
  simp only [List.getD_eq_getElem?_getD, List.getElem?_take, List.getElem?_drop] at h ⊢
  exact h
theorem OH {n : Int} (H : V w0 w F) (hn : 0 ≤ n ∧ n ≤ 4096) : iQ prog 56 #[.int .i64 n] w fun v w' => ∃ p, v = .tuple #[.pointer (some ⟨p, 0, none⟩), .int .i64 0] ∧ V w0 w' (kQ p [] 1 n • F) := by
  refine ji func56 ntmps56 ?_
  refine iy (gU O (uf O (bM O (aQ (gW O O) (jm O (fun h1 => ?_) (fun h1 => ?_))))))
  · (try simp only [Z] at h1)
    exfalso; first | contradiction | omega
  · (try simp only [Z] at h1)
    refine aY (bJ O (aY (aQ (eX O O) (fG O O (jr O (fun h2 => ?_) (fun h2 => ?_))))))
    · (try simp only [Z] at h2)
      exfalso; first | contradiction | omega
    · (try simp only [Z] at h2)
      refine fV (bM O ?_)
      refine aQ (fU (zl := [.slice none 0 0, .int .i64 0, .int .i64 0]) (pl := [(0, 1), (1, 1), (2, 1)]) [_, _, _] nM zeroValue155 O (fun w => by kernel_rfl) O (.zero (zs := [.slice none 0 0]) O (.on (.on .nil))) O) ?_
      refine kF (jF (l := [_, _, _]) H O O) ?_
      rintro _ w1 ⟨b1, rfl, H1⟩
      refine gU O (fA O (KP results56 O O ?_))
      exact ⟨_, O, V.IC (v := .slice none 0 0) (hl := []) ⟨by simp, by decide, by decide, by simp; omega, by omega, by simp⟩ ((H1.jO none).Qd (l := [])).swap⟩
theorem KI (H : V w0 w (kQ p hl base most • F)) : iQ prog 113 #[.pointer (some ⟨p, 0, none⟩)] w fun v w' => ∃ q, v = .pointer (some ⟨q, 0, none⟩) ∧ V w0 w' (kQ q hl base most • kQ p hl base most • F) := by
 refine ji func113 ntmps113 ?_
 refine ku O (aI ?_)
 obtain ⟨V9, FQ, DY⟩ := (H).Ym
 have hkl := FQ.1
 have UA := @XV hl
 have V5 := DY.drew
 have qZ := V.kp (V5.f2.f2)
 refine uN [3, 8, 12] qZ O (gX 0 O qZ O (jE 1 O qZ O (gy 2 O qZ 0 nM O sizeOf149 O (jf 3 O qZ (fun W hW => jv iU O ((Kp.h hW)).get.2 O) (gX 5 O qZ O (jE 6 O qZ O (gy 7 O qZ 1 nM O sizeOf2 O (jf 8 O qZ (fun W hW => jv underlying2 O ((Kp.h hW)).get.2 O) (gX 9 O qZ O (jE 10 O qZ O (gy 11 O qZ 2 nM O ay O (jf 12 O qZ (fun W hW => jv aC O ((Kp.h hW)).get.2 O) (mQ 4 O (iY (V5.jO none) iU afu O O O ((V5.f2).Nz) (by assumption) (by omega) (by omega)) ?_)))))))))))))
 rintro l2 w2 H2
 have zx := V.kp (H2.f3.f3.f3)
 refine fD zx (fun W hW => (Kp.h hW).right.f2.f2) ?_
 refine iI 13 O zx (fun _ => fU (zl := [.slice none 0 0, .int .i64 0, .int .i64 0]) (pl := [(0, 1), (1, 1), (2, 1)]) [_, _, _] nM zeroValue155 O (fun w => by kernel_rfl) O (.one (Rd.one ((H2).aP)) (.on (.on .nil))) O) ?_
 refine mQ 14 O (jF (l := [_, _, _]) H2 O O) ?_
 rintro _ w3 ⟨b3, rfl, H3⟩
 have Bc := V.kp (H3.f4.f4.f4.f4)
 refine iK Bc (by kernel_rfl) ?_
 refine iI 15 O Bc (fun _ => dB O) (pq (aX (lQ (dI results113 O ?_))))
 have Ho5 := H3.f4.f4
 have Hc6 := V.IC FQ Ho5
 have HQ := Hc6.f2.f3
 rw [List.nil_append, Nat.zero_add] at HQ
 exact ⟨_, O, V.IC FQ HQ.Qd.swap⟩
end
def strs (l : List ByteArray) : List Value := l.map Value.string
theorem Qe {l : List ByteArray} : ∀ x ∈ strs l, x.oneCell' = true := by
  intro x hx
  obtain ⟨e, _, rfl⟩ := List.mem_map.1 hx
  rfl
def qU (hl : List tu) : List ByteArray := hl.map (·.1) ++ [.empty]
section
variable {P : Program} {L : List (Nat × Value)} {w0 w : World} {F : HP} {p : Nat} {hl l : List tu} {base most : Int} {v : Value}
theorem Zv {hl : List tu} {k : Nat} (hk : k < hl.length) : strs ((hl.take (k + 1)).map (·.1)) = strs ((hl.take k).map (·.1)) ++ [.string (hl.getD k default).1] := by
  unfold strs
  rw [List.take_succ_eq_append_getElem hk, List.map_append, List.map_append, List.getD_eq_getElem?_getD, List.getElem?_eq_getElem hk]; rfl
theorem OI (H : V w0 w (kQ p hl base most • F)) : iQ prog 114 #[.pointer (some ⟨p, 0, none⟩)] w fun v w' => ∃ q ov nv, v = .pointer (some ⟨q, 0, none⟩) ∧
  V w0 w' (eP q (.cells #[ov, nv, .int .i64 hl.length] 166 (0, 0)) • Row 9 1 ov (qU hl).length (strs (qU hl)) • Row 9 1 nv (qU hl).length (strs (qU hl)) • kQ p hl base most • F) := by
 refine ji func114 ntmps114 ?_
 refine ku O (aI ?_)
 obtain ⟨V9, FQ, DY⟩ := (H).Ym
 have hkl := FQ.1
 refine aB (oq O O (bI 0 nM O sizeOf149 O (fC iU O (DY).get.2 O (aQ (kX ((DY.f2).Nz) iU O) ?_))))
 refine aQ (fU (zl := [.slice none 0 0, .slice none 0 0, .int .i64 0]) (pl := [(0, 1), (1, 1), (2, 1)]) [_, _, _] jc zeroValue166 O (fun w => by kernel_rfl) O (.zero (zs := [.slice none 0 0]) O (.zero (zs := [.slice none 0 0]) O (.on .nil))) O) ?_
 refine kF (jF (l := [_, _, _]) DY O O) ?_
 rintro _ w2 ⟨b2, rfl, H2⟩
 refine uf O (ku O (bf ?_))
 refine iC [(0, _), (3, _)] (fun (⟨k, u⟩ : Nat × Value) => [(4, .int .i64 (k : Int))]) (fun (⟨k, u⟩ : Nat × Value) W => k ≤ hl.length ∧ V w0 W (eP b2 (.cells #[u, .slice none 0 0, .int .i64 hl.length] 166 (0, 0)) • Row 9 1 u k (strs ((hl.take k).map (·.1))) • eP p (.cells #[V9, .int .i64 base, .int .i64 most] 155 (0, 0)) • hlK V9 hl • F)) (fun (⟨k, u⟩ : Nat × Value) => hl.length - k) ((0, .slice none 0 0)) uh mO ⟨by omega, (H2.f3.f3.f3).jO none |>.swap⟩ ?_
 rintro ⟨k, u⟩ w3 ⟨hk, HL⟩
 dsimp only [List.cons_append, List.nil_append]
 refine aI (bM O (oq O O (bI 0 nM O sizeOf149 O (fC iU O (HL.f3).get.2 O (aQ (kX ((HL.f4).Nz) iU O) (aQ (gW O O) (jr O (fun h1 => ?_) (fun h1 => ?_))))))))
 ·(try simp only [Z] at h1)
  have hkl2 : k < hl.length := by have h9 := h1; omega
  refine fV (aI (bf ?_))
  have afv := HL.drew
  have BD := V.kp (afv.f4.f4.f4.f4)
  refine uN [4, 8, 12] BD O (gX 0 O BD O (gX 1 O BD O (jE 2 O BD O (gy 3 O BD 0 jc O sizeOf33 O (jf 4 O BD (fun W hW => jv jR O ((Kp.h hW)).get.2 O) (gX 5 O BD O (jE 6 O BD O (gy 7 O BD 0 nM O sizeOf149 O (jf 8 O BD (fun W hW => jv iU O ((Kp.h hW).f3).get.2 O) (gX 9 O BD O ?_))))))))))
  obtain ⟨agZ, ag0, ag1, abe⟩ := Rd.rW ((afv.f4).Nz) (by omega)
  cases abe
  refine iI 10 O BD (fun _ => dM iU sizeOf218 O O (by omega)) (gy 11 O BD 0 nK O eG O (jf 12 O BD (fun W hW => Om (fF (dA dw O) O (Rd.atS (((Kp.h hW).f4).Nz) (by omega) (by decide))) (afs hkl2)) (mQ 13 O (lW (vs := [_]) afv jR eG zeroValue9 O O O (by decide) (aG bW)) ?_)))
  rintro l4 w4 H4
  have BN := V.kp (H4.f5.f5.f5.f5.f5)
  refine fD BN (fun W hW => (Kp.h hW).right.f4.f4.f4.f4) ?_
  refine mQ 14 O (iY H4.f3 jR adi O O O ((H4).aP) (aG bW) (by omega) (by omega)) ?_
  rintro l5 w5 H5
  have Hd6 := H5.f2.right
  have Gy := V.kp (Hd6.f4.f4.f4.f4)
  refine iK Gy (by kernel_rfl) ?_
  refine jE 15 O Gy O (gy 16 O Gy 0 jc O sizeOf33 O ?_)
  refine iH 17 O (by kernel_rfl) (gB 0 (l' := [_, _, _]) Hd6.f2 sizeOf33 O O (by first | rfl | exact Rd.one ((Hd6).aP)) O O) ?_
  rintro _ w7 H7
  have En := V.kp (H7.f4.f4.f4.f4)
  refine iK En (by kernel_rfl) ?_
  refine pq (aH (aX (aB (bJ O (aQ (fQ O O (by omega)) (gU O (bZ ?_)))))))
  refine dX ((k + 1, l5)) ?_ ?_ ?_ ?_
  ·exact mO
  ·exact uh
  ·(try dsimp only)
   first | done | exact ⟨by omega, by rw [Zv hkl2]; exact H7⟩
  ·(try dsimp only); omega
 ·(try simp only [Z] at h1)
  refine dR (aO (aO (bG (aX (aI ?_)))))
  obtain rfl : k = hl.length := by omega
  refine aB (jX O O (dK O (bI 0 jc O sizeOf33 O (fC jR O (HL).get.2 O (kF (lW (vs := [_]) HL jR eG zeroValue9 O O O (by decide) (aG bW)) ?_)))))
  rintro l8 w8 H8
  refine kF (iY H8.f3 jR adi O O O ((H8).aP) (aG bW) (by omega) (by omega)) ?_
  rintro l9 w9 H9
  have adj := H9.f2.right
  refine dK O (bI 0 jc O sizeOf33 O (aJ (gB 0 (l' := [_, _, _]) adj.f2 sizeOf33 O O (by first | rfl | exact Rd.one ((adj).aP)) O O) ?_))
  rintro _ FM rY
  have HX := rY
  rw [List.take_length, show strs (hl.map (·.1)) ++ [Value.string { data := #[] }] = strs (qU hl) from by unfold qU strs; rw [List.map_append]; rfl, show hl.length + 1 = (qU hl).length from by simp [qU]] at HX
  have hon := @Qe (qU hl)
  have hol : (qU hl).length = hl.length + 1 := by simp [qU]
  refine sG O (oq O O (bI 0 jc O sizeOf33 O (fC jR O (HX).get.2 O (kF (iY (HX.jO none) jR adi O O O ((HX.f2).aP) (by assumption) (by omega) (by omega)) ?_))))
  rintro l12 w12 vM
  refine dK O (bI 1 jc O sizeOf33 O (aJ (gB 1 (l' := [_, _, _]) vM.f2 sizeOf33 O O (by first | rfl | exact Rd.one ((vM).aP)) O O) ?_))
  rintro _ PD xI
  refine sG O (fA O (dI results114 O ?_))
  have afw := xI.f5.f5
  have afx := V.IC FQ afw
  have HQ := afx.f3.f4.f4
  rw [List.nil_append, Nat.zero_add] at HQ
  exact ⟨_, _, _, O, HQ⟩
end
section
def aho : ByteArray := ⟨#[118, 105, 45, 97, 114, 103, 45, 100, 105, 103, 105, 116]⟩
def GR : ByteArray := ⟨#[118, 105, 45, 99, 104, 97, 110, 103, 101, 45, 99, 97, 115, 101]⟩
def pI : ByteArray := ⟨#[118, 105, 45, 99, 104, 97, 110, 103, 101, 45, 99, 104, 97, 114]⟩
def Dv : ByteArray := ⟨#[118, 105, 45, 99, 104, 97, 110, 103, 101, 45, 116, 111]⟩
def J9 : ByteArray := ⟨#[118, 105, 45, 100, 101, 108, 101, 116, 101]⟩
def sN : ByteArray := ⟨#[118, 105, 45, 100, 101, 108, 101, 116, 101, 45, 116, 111]⟩
def abE : ByteArray := ⟨#[118, 105, 45, 105, 110, 115, 101, 114, 116]⟩
def uX : ByteArray := ⟨#[118, 105, 45, 109, 111, 118, 101]⟩
def afy : ByteArray := ⟨#[118, 105, 45, 109, 111, 118, 101, 109, 101, 110, 116, 45, 109, 111, 100, 101]⟩
def abF : ByteArray := ⟨#[118, 105, 45, 111, 118, 101, 114, 115, 116, 114, 105, 107, 101]⟩
def abG : ByteArray := ⟨#[118, 105, 45, 112, 117, 116]⟩
def Cb : ByteArray := ⟨#[118, 105, 45, 114, 101, 100, 111]⟩
def GU : ByteArray := ⟨#[118, 105, 45, 115, 101, 116, 45, 109, 97, 114, 107]⟩
def abH : ByteArray := ⟨#[118, 105, 45, 115, 117, 98, 115, 116]⟩
def abI : ByteArray := ⟨#[118, 105, 45, 117, 110, 100, 111]⟩
def Jr : ByteArray := ⟨#[118, 105, 45, 121, 97, 110, 107, 45, 116, 111]⟩
def Ry : List ByteArray := [aho, GR, pI, Dv, J9, sN, abE, uX, afy, abF, abG, Cb, GU, abH, abI, Jr]
def AP (n : ByteArray) : Prop := ∃ k, k < 16 ∧ (Ry.getD k .empty).toList = n.toList
theorem abJ {l : List ByteArray} {k : Nat} (hk : k < l.length) : (strs l).getD k undef = .string (l.getD k .empty) := by
  unfold strs; simp [List.getD_eq_getElem?_getD, hk]
def Js : ByteArray := ⟨#[102, 70, 116, 84, 96]⟩
def afz : ByteArray := ⟨#[100, 99, 121]⟩
def CQ (n : ByteArray) (keys : List Int) : Prop :=
  if n.toList = uX.toList then keys.length = 1 ∧ keys.getD 0 0 ∈ rJ Js
  else if n.toList = pI.toList ∨ n.toList = GU.toList then keys.length = 1
  else if n.toList = sN.toList ∨ n.toList = Dv.toList ∨ n.toList = Jr.toList then
    keys.getD 0 0 ∈ rJ afz ∧ ((kE (keys.drop 1)).length = 0 ∨ ((kE (keys.drop 1)).length = 1 ∧ (kE (keys.drop 1)).getD 0 0 ∈ rJ Js))
  else False
open Classical in
noncomputable def jS (n : ByteArray) (keys : List Int) : Int := if ¬ AP n then -1 else if keys.length = 0 then 1 else if CQ n keys then 1 else 0
section
variable {n : ByteArray} {keys : List Int}
theorem Jt (h : ¬ AP n) : jS n keys = -1 := if_pos h
theorem UC (h : AP n) (h0 : keys.length = 0) : jS n keys = 1 := by unfold jS; rw [if_neg (not_not_intro h), if_pos h0]
theorem NC (h : AP n) (h1 : CQ n keys) : jS n keys = 1 := by
  unfold jS; rw [if_neg (not_not_intro h), if_pos h1]; split <;> rfl
theorem EK (h : AP n) (h0 : ¬ keys.length = 0) (h1 : ¬ CQ n keys) : jS n keys = 0 := by unfold jS; rw [if_neg (not_not_intro h), if_neg h0, if_neg h1]
theorem iW (h : n.toList = uX.toList) : CQ n keys ↔ (keys.length = 1 ∧ keys.getD 0 0 ∈ rJ Js) := by unfold CQ; rw [if_pos h]
theorem lG (h1 : ¬ n.toList = uX.toList) (h : n.toList = pI.toList ∨ n.toList = GU.toList) : CQ n keys ↔ keys.length = 1 := by unfold CQ; rw [if_neg h1, if_pos h]
theorem fZ (h1 : ¬ n.toList = uX.toList) (h2 : ¬ (n.toList = pI.toList ∨ n.toList = GU.toList)) (h : n.toList = sN.toList ∨ n.toList = Dv.toList ∨ n.toList = Jr.toList) :
    CQ n keys ↔ (keys.getD 0 0 ∈ rJ afz ∧ ((kE (keys.drop 1)).length = 0 ∨ ((kE (keys.drop 1)).length = 1 ∧ (kE (keys.drop 1)).getD 0 0 ∈ rJ Js))) := by unfold CQ; rw [if_neg h1, if_neg h2, if_pos h]
theorem xB (h1 : ¬ n.toList = uX.toList) (h2 : ¬ (n.toList = pI.toList ∨ n.toList = GU.toList)) (h : ¬ (n.toList = sN.toList ∨ n.toList = Dv.toList ∨ n.toList = Jr.toList)) : ¬ CQ n keys := by unfold CQ; rw [if_neg h1, if_neg h2, if_neg h]; exact id
end
section
variable {w0 w : World} {F : HP} {v u : Value} {l : List ByteArray} {n : ByteArray} {keys : List Int}
theorem WW (H : V w0 w F) : iQ prog 19 #[] w fun u w' => V w0 w' (Row 9 1 u 16 (strs Ry) • F) := by
  refine YP func19 ntmps19 ?_
  refine ku O (iy (kF (lW (vs := [_, _, _, _, _, _, _, _, _, _, _, _, _, _, _, _]) H jR eG zeroValue9 O O O (by decide) (aG (aG (aG (aG (aG (aG (aG (aG (aG (aG (aG (aG (aG (aG (aG (aG bW))))))))))))))))) ?_))
  rintro l1 w1 H1
  refine fA O (dI results19 O ?_)
  exact H1
theorem Zw (H : V w0 w F) (hr : YN w0 F 1 v l.length (strs l)) : iQ prog 108 #[v, .string n] w fun u w' => ∃ i, u = .int .i64 i ∧ (0 ≤ i ↔ ∃ k, k < l.length ∧ (l.getD k .empty).toList = n.toList) ∧ V w0 w' F := by
 have Yk : l.length ≤ 9223372036854775807 := by obtain ⟨_, a, c, _, h1, h2, _⟩ := hr w H; omega
 refine qc func108 ntmps108 ?_
 refine ku O (aI (bM O (aQ (kX (hr _ (H)) jR O) (bJ O (iE (bf ?_))))))
 refine iC [(0, _), (1, _), (7, _)] (fun (k : Nat) => [(8, .int .i64 (k : Int))]) (fun (k : Nat) W => (k ≤ l.length ∧ ∀ j, j < k → ¬ (l.getD j .empty).toList = n.toList) ∧ V w0 W F) (fun (k : Nat) => l.length - k) (0) vC mO ⟨⟨by omega, fun j h => by omega⟩, H⟩ ?_
 rintro k w1 ⟨⟨hk, hno⟩, HL⟩
 dsimp only [List.cons_append, List.nil_append]
 refine iy (aQ (gW O O) (rP (aZ O (fun h1 => ?_) (fun h1 => ?_))))
 ·(try simp only [Z] at h1)
  refine fV (aI (bf (bM O (uf O ?_))))
  have hkl : k < l.length := by omega
  refine aB (jX O O (bJ O ?_))
  obtain ⟨bv, ov, cv, ev⟩ := Rd.rW (hr _ (HL)) (by omega)
  cases ev
  refine aQ (dM jR eG O O (by omega)) ?_
  refine aQ (Om (fF (dA dw O) O (by first | exact Rd.lX (hr _ (HL)) (by omega) | exact Rd.xJ (hr _ (HL)) (by omega) | exact Rd.xH (hr _ (HL)) (by omega))) (abJ (l := l) hkl)) ?_
  refine aQ (bY O O) (jr O (fun h2 => ?_) (fun h2 => ?_))
  ·(try simp only [Z] at h2)
   have heq : n.toList = (l.getD k .empty).toList := h2
   refine bM O (fA O (aU (aA (aA (aU (aA (dI results108 O ?_)))))))
   exact ⟨_, O, ⟨fun _ => ⟨k, hkl, heq.symm⟩, fun _ => by omega⟩, HL⟩
  ·(try simp only [Z] at h2)
   have hne : ¬ n.toList = (l.getD k .empty).toList := h2
   refine dh (aH (aX (aB (aQ (fQ O O (by omega)) (bJ O (bZ ?_))))))
   refine dX (k + 1) ?_ ?_ ?_ ?_
   ·exact mO
   ·exact vC
   ·(try dsimp only)
    first | done | exact ⟨⟨by omega, fun j h => if e : j = k then (by rw [e]; exact fun c => hne c.symm) else hno j (by omega)⟩, HL⟩
   ·(try dsimp only); omega
 ·(try simp only [Z] at h1)
  refine dR (aO (aO (bG (aX (kC O (dI results108 O ?_))))))
  exact ⟨_, rfl, ⟨fun h => (by omega), fun ⟨j, h1, h2⟩ => absurd h2 (hno j (by omega))⟩, HL⟩
theorem WX (H : V w0 w F) (hr : YN w0 F 1 v l.length (strs l)) : iQ prog 49 #[v, .string n] w fun u w' => ∃ b, u = .bool b ∧ (b = true ↔ ∃ k, k < l.length ∧ (l.getD k .empty).toList = n.toList) ∧ V w0 w' F := by
  refine qc func49 ntmps49 ?_
  refine ku O (bM O (bJ O (dS O func108 (Zw H (fun W HW => hr _ (HW))) ?_)))
  rintro _ w1 ⟨i1, rfl, hi1, H1⟩
  refine aQ (lI O O) (fA O (dI results49 O ?_))
  exact ⟨_, O, by rw [decide_eq_true_iff]; assumption, H1⟩
end
end
theorem tV {b : Bool} {P : Prop} [Decidable P] (hb : b = true) (h : P) : Value.bool b = Value.bool (decide P) := by rw [hb, decide_eq_true h]
theorem aeu {b : Bool} {A B : Prop} [Decidable (A ∨ B)] (h1 : ¬ A) (hb : b = true ↔ B) : Value.bool b = Value.bool (decide (A ∨ B)) := congrArg Value.bool (by rw [Bool.eq_iff_iff, decide_eq_true_iff]; exact hb.trans ⟨.inr, fun h => h.resolve_left h1⟩)
theorem abK {b : Bool} {A B C : Prop} [Decidable (A ∨ B ∨ C)] (h1 : ¬ A) (h2 : ¬ B) (hb : b = true ↔ C) : Value.bool b = Value.bool (decide (A ∨ B ∨ C)) := congrArg Value.bool (by rw [Bool.eq_iff_iff, decide_eq_true_iff]; exact hb.trans ⟨fun h => .inr (.inr h), fun h => (h.resolve_left h1).resolve_left h2⟩)
section
variable {w0 w : World} {F : HP} {v u : Value} {n : ByteArray} {keys : List Int}
theorem AQ (H : V w0 w F) (hr : jh w0 F .i32 v keys) : iQ prog 16 #[.string n, v] w fun u w' => u = .int .i64 (jS n keys) ∧ V w0 w' F := by
 have Yk : keys.length ≤ 9223372036854775807 := by have := (hr _ H).open; obtain ⟨a, c, e, h3, h4, _⟩ := this; omega
 refine qc func16 ntmps16 ?_
 refine ku O (aI (iy (dS O func19 (WW H) ?_)))
 rintro u1 w1 H1
 refine bJ O (dS O func49 (WX (l := Ry) H1 (fun W HW => (HW).aP)) ?_)
 rintro _ w2 ⟨b2, rfl, hb2, H2⟩
 have P9 := H2.right
 refine aQ (kG O) (jr O (fun h1 => ?_) (fun h1 => ?_))
 ·(try simp only [Z] at h1)
  have hkn : ¬ AP n := fun hc => by have h9 := hb2.2 hc; rw [h1] at h9; exact absurd h9 (by decide)
  refine kC O (aA (dI results16 O ?_))
  exact ⟨by rw [Jt hkn], P9⟩
 ·(try simp only [Z] at h1)
  have hkn : AP n := hb2.1 h1
  refine fV (aI (bM O (aQ (iT (hr _ (P9)) ah O) (aQ (eF O O) (jr O (fun h2 => ?_) (fun h2 => ?_))))))
  ·(try simp only [Z] at h2)
   refine kC O (aA (dI results16 O ?_))
   exact ⟨by rw [UC hkn (by omega)], P9⟩
  ·(try simp only [Z] at h2)
   refine fV (aI ?_)
   have hk0 : ¬ keys.length = 0 := by omega
   refine aB (dZ O ?_)
   refine kL [] (fun (m : Bool) => [(5, .bool m)]) (fun (m : Bool) W => (m = true ↔ CQ n keys) ∧ V w0 W F) (Sub.nil _) ?_ ?_
   ·rintro m w4 ⟨hm, HM⟩
    dsimp only [List.cons_append, List.nil_append]
    refine aI (bM O (jr O (fun h3 => ?_) (fun h3 => ?_)))
    ·(try simp only [Z] at h3)
     have hmt := hm.1 h3
     refine kC O (aA (dI results16 O ?_))
     exact ⟨by rw [NC hkn hmt], HM⟩
    ·(try simp only [Z] at h3)
     have hmt : ¬ CQ n keys := fun hc => by have h9 := h3; rw [hm.2 hc] at h9; exact absurd h9 (by decide)
     refine fV (kC O (dI results16 O ?_))
     exact ⟨by rw [EK hkn hk0 hmt], HM⟩
   ·skip
    refine bM O (iE (bf (iy (aQ (bY O O) (dZ O (aZ O (fun h4 => ?_) (fun h4 => ?_)))))))
    ·(try simp only [Z] at h4)
     have hmv : n.toList = uX.toList := h4
     refine aB (bJ O (aQ (iT (hr _ (P9)) ah O) (aQ (eF O O) (jm O (fun h5 => ?_) (fun h5 => ?_)))))
     ·(try simp only [Z] at h5)
      refine aY (bJ O (aY ?_))
      obtain ⟨bv, ov, cv, ev⟩ := fJ.rW (hr _ (P9)) (by omega)
      cases ev
      refine aQ (dM ah bK O O (by omega)) (aY ?_)
      refine aQ (fF (dA bC O) O (by first | exact fJ.lX (hr _ (P9)) (by omega) | exact fJ.xJ (hr _ (P9)) (by omega) | exact fJ.xH (hr _ (P9)) (by omega))) ?_
      refine aY (dS O func50 (yD (s := Js) (by decide)) ?_)
      rintro _ _ ⟨rfl, rfl⟩
      refine je O O (gU O (bZ (aH ?_)))
      refine dD (_) mO (Sub.nil _) (by (try dsimp only); exact ⟨by first | exact decide_eq_true_iff.trans ⟨fun h => (iW hmv).2 ⟨by omega, h⟩, fun h => ((iW hmv).1 h).2⟩ | exact iff_of_false (by decide) fun h => absurd ((iW hmv).1 h).1 (by omega) | exact beq_iff_eq.trans ⟨fun h => (lG hmv hch).2 (by omega), fun h => by have := (lG hmv hch).1 h; omega⟩ | exact iff_of_true O ((fZ hmv hch hop).2 ⟨by assumption, .inl (by show (kE (List.drop (Int.toNat 1) keys)).length = 0; omega)⟩) | exact decide_eq_true_iff.trans ⟨fun h => (fZ hmv hch hop).2 ⟨by assumption, .inr ⟨by show (kE (List.drop (Int.toNat 1) keys)).length = 1; omega, h⟩⟩, fun h => ((fZ hmv hch hop).1 h).2.elim (fun c => absurd c (by show ¬ (kE (List.drop (Int.toNat 1) keys)).length = 0; omega)) (fun c => c.2)⟩ | exact iff_of_false (by decide) fun h => ((fZ hmv hch hop).1 h).2.elim (fun c => absurd c (by show ¬ (kE (List.drop (Int.toNat 1) keys)).length = 0; omega)) (fun c => absurd c.1 (by show ¬ (kE (List.drop (Int.toNat 1) keys)).length = 1; omega)) | exact iff_of_false (by decide) fun h => absurd ((fZ hmv hch hop).1 h).1 (by assumption) | exact iff_of_false (by decide) (xB hmv hch hop), P9⟩)
     ·(try simp only [Z] at h5)
      refine bn (bn (bn (bn (fG O O (gU O (bZ (aH ?_)))))))
      refine dD (_) mO (Sub.nil _) (by (try dsimp only); exact ⟨by first | exact decide_eq_true_iff.trans ⟨fun h => (iW hmv).2 ⟨by omega, h⟩, fun h => ((iW hmv).1 h).2⟩ | exact iff_of_false (by decide) fun h => absurd ((iW hmv).1 h).1 (by omega) | exact beq_iff_eq.trans ⟨fun h => (lG hmv hch).2 (by omega), fun h => by have := (lG hmv hch).1 h; omega⟩ | exact iff_of_true O ((fZ hmv hch hop).2 ⟨by assumption, .inl (by show (kE (List.drop (Int.toNat 1) keys)).length = 0; omega)⟩) | exact decide_eq_true_iff.trans ⟨fun h => (fZ hmv hch hop).2 ⟨by assumption, .inr ⟨by show (kE (List.drop (Int.toNat 1) keys)).length = 1; omega, h⟩⟩, fun h => ((fZ hmv hch hop).1 h).2.elim (fun c => absurd c (by show ¬ (kE (List.drop (Int.toNat 1) keys)).length = 0; omega)) (fun c => c.2)⟩ | exact iff_of_false (by decide) fun h => ((fZ hmv hch hop).1 h).2.elim (fun c => absurd c (by show ¬ (kE (List.drop (Int.toNat 1) keys)).length = 0; omega)) (fun c => absurd c.1 (by show ¬ (kE (List.drop (Int.toNat 1) keys)).length = 1; omega)) | exact iff_of_false (by decide) fun h => absurd ((fZ hmv hch hop).1 h).1 (by assumption) | exact iff_of_false (by decide) (xB hmv hch hop), P9⟩)
    ·(try simp only [Z] at h4)
     have hmv : ¬ n.toList = uX.toList := h4
     refine kL [(1, _), (5, _), (15, _)] (fun (_ : Unit) => [(27, .bool (decide (n.toList = pI.toList ∨ n.toList = GU.toList)))]) (fun (_ : Unit) W => V w0 W F) vC ?_ ?_
     ·rintro _ w6 HJ
      dsimp only [List.cons_append, List.nil_append]
      refine aZ O (fun h6 => ?_) (fun h6 => ?_)
      ·(try simp only [Z] at h6)
       have hch := h6
       refine aB (bJ O (aQ (iT (hr _ (HJ)) ah O) (aQ (eF O O) (gU O (bZ (aH ?_))))))
       refine dD (_) mO (Sub.nil _) (by (try dsimp only); exact ⟨by first | exact decide_eq_true_iff.trans ⟨fun h => (iW hmv).2 ⟨by omega, h⟩, fun h => ((iW hmv).1 h).2⟩ | exact iff_of_false (by decide) fun h => absurd ((iW hmv).1 h).1 (by omega) | exact beq_iff_eq.trans ⟨fun h => (lG hmv hch).2 (by omega), fun h => by have := (lG hmv hch).1 h; omega⟩ | exact iff_of_true O ((fZ hmv hch hop).2 ⟨by assumption, .inl (by show (kE (List.drop (Int.toNat 1) keys)).length = 0; omega)⟩) | exact decide_eq_true_iff.trans ⟨fun h => (fZ hmv hch hop).2 ⟨by assumption, .inr ⟨by show (kE (List.drop (Int.toNat 1) keys)).length = 1; omega, h⟩⟩, fun h => ((fZ hmv hch hop).1 h).2.elim (fun c => absurd c (by show ¬ (kE (List.drop (Int.toNat 1) keys)).length = 0; omega)) (fun c => c.2)⟩ | exact iff_of_false (by decide) fun h => ((fZ hmv hch hop).1 h).2.elim (fun c => absurd c (by show ¬ (kE (List.drop (Int.toNat 1) keys)).length = 0; omega)) (fun c => absurd c.1 (by show ¬ (kE (List.drop (Int.toNat 1) keys)).length = 1; omega)) | exact iff_of_false (by decide) fun h => absurd ((fZ hmv hch hop).1 h).1 (by assumption) | exact iff_of_false (by decide) (xB hmv hch hop), HJ⟩)
      ·(try simp only [Z] at h6)
       have hch := h6
       refine kL [(1, _), (5, _)] (fun (_ : Unit) => [(33, .bool (decide (n.toList = sN.toList ∨ n.toList = Dv.toList ∨ n.toList = Jr.toList)))]) (fun (_ : Unit) W => V w0 W F) uh ?_ ?_
       ·rintro _ w7 HK
        dsimp only [List.cons_append, List.nil_append]
        refine aZ O (fun h7 => ?_) (fun h7 => ?_)
        ·(try simp only [Z] at h7)
         have hop := h7
         refine bM O ?_
         obtain ⟨bv, ov, cv, ev⟩ := fJ.rW (hr _ (HK)) (by omega)
         cases ev
         refine aQ (dM ah bK O O (by omega)) ?_
         refine aQ (fF (dA bC O) O (by first | exact fJ.lX (hr _ (HK)) (by omega) | exact fJ.xJ (hr _ (HK)) (by omega) | exact fJ.xH (hr _ (HK)) (by omega))) ?_
         refine dS O func50 (yD (s := afz) (by decide)) ?_
         rintro _ _ ⟨rfl, rfl⟩
         refine jr O (fun h8 => ?_) (fun h8 => ?_)
         ·(try simp only [Z] at h8)
          refine bM O (aQ (oO (hr _ (HK)) ah bK O O O (by omega)) ?_)
          refine dS O func51 (Rx HK (fun W HW => fJ.from (hr _ (HW)) (by omega))) ?_
          rintro _ w9 ⟨kv9, rfl, Zx, H9⟩
          refine bJ O (pW O O (pW O O (gU O (dZ O (aB (bJ O (aQ (iT (Zx _ (H9)) ah O) (aQ (eF O O) (jm O (fun h9 => ?_) (fun h9 => ?_))))))))))
          ·(try simp only [Z] at h9)
           refine bn (bn (bn (bn (lH (lH (lH (lH (bn (je O O (gU O (bZ (aH ?_))))))))))))
           refine dD (_) mO (Sub.nil _) (by (try dsimp only); exact ⟨by first | exact decide_eq_true_iff.trans ⟨fun h => (iW hmv).2 ⟨by omega, h⟩, fun h => ((iW hmv).1 h).2⟩ | exact iff_of_false (by decide) fun h => absurd ((iW hmv).1 h).1 (by omega) | exact beq_iff_eq.trans ⟨fun h => (lG hmv hch).2 (by omega), fun h => by have := (lG hmv hch).1 h; omega⟩ | exact iff_of_true O ((fZ hmv hch hop).2 ⟨by assumption, .inl (by show (kE (List.drop (Int.toNat 1) keys)).length = 0; omega)⟩) | exact decide_eq_true_iff.trans ⟨fun h => (fZ hmv hch hop).2 ⟨by assumption, .inr ⟨by show (kE (List.drop (Int.toNat 1) keys)).length = 1; omega, h⟩⟩, fun h => ((fZ hmv hch hop).1 h).2.elim (fun c => absurd c (by show ¬ (kE (List.drop (Int.toNat 1) keys)).length = 0; omega)) (fun c => c.2)⟩ | exact iff_of_false (by decide) fun h => ((fZ hmv hch hop).1 h).2.elim (fun c => absurd c (by show ¬ (kE (List.drop (Int.toNat 1) keys)).length = 0; omega)) (fun c => absurd c.1 (by show ¬ (kE (List.drop (Int.toNat 1) keys)).length = 1; omega)) | exact iff_of_false (by decide) fun h => absurd ((fZ hmv hch hop).1 h).1 (by assumption) | exact iff_of_false (by decide) (xB hmv hch hop), H9⟩)
          ·(try simp only [Z] at h9)
           refine aY (bJ O (aY (aQ (iT (Zx _ (H9)) ah O) (aY (aQ (eF O O) (aY (jm O (fun h10 => ?_) (fun h10 => ?_))))))))
           ·(try simp only [Z] at h10)
            refine aY (bJ O (aY ?_))
            obtain ⟨ake, akf, akg, ai0⟩ := fJ.rW (Zx _ (H9)) (by omega)
            cases ai0
            refine aQ (dM ah bK O O (by omega)) (aY ?_)
            refine aQ (fF (dA bC O) O (by first | exact fJ.lX (Zx _ (H9)) (by omega) | exact fJ.xJ (Zx _ (H9)) (by omega) | exact fJ.xH (Zx _ (H9)) (by omega))) ?_
            refine aY (dS O func50 (yD (s := Js) (by decide)) ?_)
            rintro _ _ ⟨rfl, rfl⟩
            refine aY (je O O (fG O O (gU O (bZ (aH ?_)))))
            refine dD (_) mO (Sub.nil _) (by (try dsimp only); exact ⟨by first | exact decide_eq_true_iff.trans ⟨fun h => (iW hmv).2 ⟨by omega, h⟩, fun h => ((iW hmv).1 h).2⟩ | exact iff_of_false (by decide) fun h => absurd ((iW hmv).1 h).1 (by omega) | exact beq_iff_eq.trans ⟨fun h => (lG hmv hch).2 (by omega), fun h => by have := (lG hmv hch).1 h; omega⟩ | exact iff_of_true O ((fZ hmv hch hop).2 ⟨by assumption, .inl (by show (kE (List.drop (Int.toNat 1) keys)).length = 0; omega)⟩) | exact decide_eq_true_iff.trans ⟨fun h => (fZ hmv hch hop).2 ⟨by assumption, .inr ⟨by show (kE (List.drop (Int.toNat 1) keys)).length = 1; omega, h⟩⟩, fun h => ((fZ hmv hch hop).1 h).2.elim (fun c => absurd c (by show ¬ (kE (List.drop (Int.toNat 1) keys)).length = 0; omega)) (fun c => c.2)⟩ | exact iff_of_false (by decide) fun h => ((fZ hmv hch hop).1 h).2.elim (fun c => absurd c (by show ¬ (kE (List.drop (Int.toNat 1) keys)).length = 0; omega)) (fun c => absurd c.1 (by show ¬ (kE (List.drop (Int.toNat 1) keys)).length = 1; omega)) | exact iff_of_false (by decide) fun h => absurd ((fZ hmv hch hop).1 h).1 (by assumption) | exact iff_of_false (by decide) (xB hmv hch hop), H9⟩)
           ·(try simp only [Z] at h10)
            refine bn (bn (bn (bn (aY (fG O O (fG O O (gU O (bZ (aH ?_)))))))))
            refine dD (_) mO (Sub.nil _) (by (try dsimp only); exact ⟨by first | exact decide_eq_true_iff.trans ⟨fun h => (iW hmv).2 ⟨by omega, h⟩, fun h => ((iW hmv).1 h).2⟩ | exact iff_of_false (by decide) fun h => absurd ((iW hmv).1 h).1 (by omega) | exact beq_iff_eq.trans ⟨fun h => (lG hmv hch).2 (by omega), fun h => by have := (lG hmv hch).1 h; omega⟩ | exact iff_of_true O ((fZ hmv hch hop).2 ⟨by assumption, .inl (by show (kE (List.drop (Int.toNat 1) keys)).length = 0; omega)⟩) | exact decide_eq_true_iff.trans ⟨fun h => (fZ hmv hch hop).2 ⟨by assumption, .inr ⟨by show (kE (List.drop (Int.toNat 1) keys)).length = 1; omega, h⟩⟩, fun h => ((fZ hmv hch hop).1 h).2.elim (fun c => absurd c (by show ¬ (kE (List.drop (Int.toNat 1) keys)).length = 0; omega)) (fun c => c.2)⟩ | exact iff_of_false (by decide) fun h => ((fZ hmv hch hop).1 h).2.elim (fun c => absurd c (by show ¬ (kE (List.drop (Int.toNat 1) keys)).length = 0; omega)) (fun c => absurd c.1 (by show ¬ (kE (List.drop (Int.toNat 1) keys)).length = 1; omega)) | exact iff_of_false (by decide) fun h => absurd ((fZ hmv hch hop).1 h).1 (by assumption) | exact iff_of_false (by decide) (xB hmv hch hop), H9⟩)
         ·(try simp only [Z] at h8)
          refine dh (aH ?_)
          refine dD (_) mO (Sub.nil _) (by (try dsimp only); exact ⟨by first | exact decide_eq_true_iff.trans ⟨fun h => (iW hmv).2 ⟨by omega, h⟩, fun h => ((iW hmv).1 h).2⟩ | exact iff_of_false (by decide) fun h => absurd ((iW hmv).1 h).1 (by omega) | exact beq_iff_eq.trans ⟨fun h => (lG hmv hch).2 (by omega), fun h => by have := (lG hmv hch).1 h; omega⟩ | exact iff_of_true O ((fZ hmv hch hop).2 ⟨by assumption, .inl (by show (kE (List.drop (Int.toNat 1) keys)).length = 0; omega)⟩) | exact decide_eq_true_iff.trans ⟨fun h => (fZ hmv hch hop).2 ⟨by assumption, .inr ⟨by show (kE (List.drop (Int.toNat 1) keys)).length = 1; omega, h⟩⟩, fun h => ((fZ hmv hch hop).1 h).2.elim (fun c => absurd c (by show ¬ (kE (List.drop (Int.toNat 1) keys)).length = 0; omega)) (fun c => c.2)⟩ | exact iff_of_false (by decide) fun h => ((fZ hmv hch hop).1 h).2.elim (fun c => absurd c (by show ¬ (kE (List.drop (Int.toNat 1) keys)).length = 0; omega)) (fun c => absurd c.1 (by show ¬ (kE (List.drop (Int.toNat 1) keys)).length = 1; omega)) | exact iff_of_false (by decide) fun h => absurd ((fZ hmv hch hop).1 h).1 (by assumption) | exact iff_of_false (by decide) (xB hmv hch hop), HK⟩)
        ·(try simp only [Z] at h7)
         have hop := h7
         refine dh (aH ?_)
         refine dD (_) mO (Sub.nil _) (by (try dsimp only); exact ⟨by first | exact decide_eq_true_iff.trans ⟨fun h => (iW hmv).2 ⟨by omega, h⟩, fun h => ((iW hmv).1 h).2⟩ | exact iff_of_false (by decide) fun h => absurd ((iW hmv).1 h).1 (by omega) | exact beq_iff_eq.trans ⟨fun h => (lG hmv hch).2 (by omega), fun h => by have := (lG hmv hch).1 h; omega⟩ | exact iff_of_true O ((fZ hmv hch hop).2 ⟨by assumption, .inl (by show (kE (List.drop (Int.toNat 1) keys)).length = 0; omega)⟩) | exact decide_eq_true_iff.trans ⟨fun h => (fZ hmv hch hop).2 ⟨by assumption, .inr ⟨by show (kE (List.drop (Int.toNat 1) keys)).length = 1; omega, h⟩⟩, fun h => ((fZ hmv hch hop).1 h).2.elim (fun c => absurd c (by show ¬ (kE (List.drop (Int.toNat 1) keys)).length = 0; omega)) (fun c => c.2)⟩ | exact iff_of_false (by decide) fun h => ((fZ hmv hch hop).1 h).2.elim (fun c => absurd c (by show ¬ (kE (List.drop (Int.toNat 1) keys)).length = 0; omega)) (fun c => absurd c.1 (by show ¬ (kE (List.drop (Int.toNat 1) keys)).length = 1; omega)) | exact iff_of_false (by decide) fun h => absurd ((fZ hmv hch hop).1 h).1 (by assumption) | exact iff_of_false (by decide) (xB hmv hch hop), HK⟩)
       ·skip
        refine iy (aQ (bY O O) (dZ O (aZ O (fun h11 => ?_) (fun h11 => ?_))))
        ·(try simp only [Z] at h11)
         have hop := h11
         refine dh ?_
         refine dD (()) ?_ ?_ ?_
         ·exact (Sub.jW O (by first | exact tV (beq_iff_eq.2 (by assumption)) (.inl (by assumption)) | exact tV (beq_iff_eq.2 (by assumption)) (.inr (.inl (by assumption))) | exact abK (by assumption) (by assumption) beq_iff_eq) (Sub.nil _))
         ·exact uh
         ·(try dsimp only)
          first | done | exact HJ
        ·(try simp only [Z] at h11)
         have hop := h11
         refine iy (aQ (bY O O) (dZ O (aZ O (fun h12 => ?_) (fun h12 => ?_))))
         ·(try simp only [Z] at h12)
          have hop := h12
          refine dh ?_
          refine dD (()) ?_ ?_ ?_
          ·exact (Sub.jW O (by first | exact tV (beq_iff_eq.2 (by assumption)) (.inl (by assumption)) | exact tV (beq_iff_eq.2 (by assumption)) (.inr (.inl (by assumption))) | exact abK (by assumption) (by assumption) beq_iff_eq) (Sub.nil _))
          ·exact uh
          ·(try dsimp only)
           first | done | exact HJ
         ·(try simp only [Z] at h12)
          have hop := h12
          refine aB (aQ (bY O O) (gU O (bZ ?_)))
          refine dD (()) ?_ ?_ ?_
          ·exact (Sub.jW O (by first | exact tV (beq_iff_eq.2 (by assumption)) (.inl (by assumption)) | exact tV (beq_iff_eq.2 (by assumption)) (.inr (.inl (by assumption))) | exact abK (by assumption) (by assumption) beq_iff_eq) (Sub.nil _))
          ·exact uh
          ·(try dsimp only)
           first | done | exact HJ
     ·skip
      refine iy (aQ (bY O O) (dZ O (aZ O (fun h13 => ?_) (fun h13 => ?_))))
      ·(try simp only [Z] at h13)
       have hch := h13
       refine dh ?_
       refine dD (()) ?_ ?_ ?_
       ·exact (Sub.jW O (by first | exact tV (beq_iff_eq.2 (by assumption)) (.inl (by assumption)) | exact aeu (by assumption) beq_iff_eq) (Sub.nil _))
       ·exact vC
       ·(try dsimp only)
        first | done | exact P9
      ·(try simp only [Z] at h13)
       have hch := h13
       refine aB (aQ (bY O O) (gU O (bZ ?_)))
       refine dD (()) ?_ ?_ ?_
       ·exact (Sub.jW O (by first | exact tV (beq_iff_eq.2 (by assumption)) (.inl (by assumption)) | exact aeu (by assumption) beq_iff_eq) (Sub.nil _))
       ·exact vC
       ·(try dsimp only)
        first | done | exact P9
end
structure VM where
  marks : Int → Option Int
  fk : Int
  fc : Int
  name : ByteArray
  keys : List Int
  n : Int
  typed : List Int
  frm : Int
def uY (n : ByteArray) : Prop := n.toList = Dv.toList ∨ n.toList = abE.toList ∨ n.toList = abF.toList ∨ n.toList = abH.toList
def qV (n : ByteArray) : Prop := n.toList = GR.toList ∨ n.toList = pI.toList ∨ n.toList = J9.toList ∨ n.toList = sN.toList ∨ n.toList = abG.toList
instance (n : ByteArray) : Decidable (uY n) := by unfold uY; infer_instance
instance (n : ByteArray) : Decidable (qV n) := by unfold qV; infer_instance
def abL (M : VM) : Prop := M.keys.length * 4 ≤ 140737488355328 ∧ M.typed.length ≤ 1024 ∧ (M.name.toList = [] ∨ ((uY M.name ∨ qV M.name) ∧ jS M.name M.keys = 0 ∧ 1 ≤ M.n ∧ M.n ≤ 1000000))
def EL (m : Int → Option Int) : Int → Option Value := fun k => (m k).map (.int .i64)
def jY (m : Nat) (M : VM) : HP := xQ fun (x : Nat × Value × Value) => fact (abL M) • eP m (.cells #[.map (some x.1), .int .i32 M.fk, .int .i32 M.fc, .string M.name, x.2.1, .int .i64 M.n, x.2.2, .int .i64 M.frm] 119 (0, 0)) • iV Y5 x.1 (EL M.marks) • pF .i32 x.2.1 M.keys • pF .i32 x.2.2 M.typed
def VM.new : VM := ⟨fun _ => none, 0, 0, .empty, [], 0, [], -1⟩
theorem VM.Rj : abL VM.new := ⟨by decide, by decide, .inl (by rw [ByteArray.toList_eq]; rfl)⟩
section
variable {w0 w : World} {F : HP} {m : Nat} {M : VM}
theorem V.vm (H : V w0 w (jY m M • F)) : ∃ mb kv tv, abL M ∧ V w0 w (eP m (.cells #[.map (some mb), .int .i32 M.fk, .int .i32 M.fc, .string M.name, kv, .int .i64 M.n, tv, .int .i64 M.frm] 119 (0, 0)) • iV Y5 mb (EL M.marks) • pF .i32 kv M.keys • pF .i32 tv M.typed • F) := by
  obtain ⟨⟨mb, kv, tv⟩, H⟩ := H.oN
  obtain ⟨h, H⟩ := H.flat.fact
  exact ⟨mb, kv, tv, h, H.of_eq (by simp only [dH])⟩
theorem V.CS {mb : Nat} {kv tv : Value} (h : abL M) (H : V w0 w (eP m (.cells #[.map (some mb), .int .i32 M.fk, .int .i32 M.fc, .string M.name, kv, .int .i64 M.n, tv, .int .i64 M.frm] 119 (0, 0)) • iV Y5 mb (EL M.marks) • pF .i32 kv M.keys • pF .i32 tv M.typed • F)) : V w0 w (jY m M • F) :=
  V.jV (mb, kv, tv) (V.deep (V.mW h (H.of_eq (by simp only [dH]))))
theorem ND (H : V w0 w F) : V w0 w (pF .i32 (.slice none 0 0) [] • F) := V.mY (e := 21) (k := .i32) (l := []) (H.jO none)
theorem V.afA {mb : Nat} {kv : Value} (h : abL M) (ht : M.typed = []) (H : V w0 w (eP m (.cells #[.map (some mb), .int .i32 M.fk, .int .i32 M.fc, .string M.name, kv, .int .i64 M.n, .slice none 0 0, .int .i64 M.frm] 119 (0, 0)) • iV Y5 mb (EL M.marks) • pF .i32 kv M.keys • F)) : V w0 w (jY m M • F) :=
  V.CS h (by rw [ht]; exact (ND H).of_eq (by ac_rfl))
theorem BF (H : V w0 w (jY m M • F)) : iQ prog 69 #[.pointer (some ⟨m, 0, none⟩)] w fun v w' => v = .bool false ∧ w = w' := by
 refine ji func69 ntmps69 ?_
 refine ku O (aI ?_)
 obtain ⟨NG, KJ, Ju, tX, wL⟩ := (H).vm
 refine aB (bJ O (aQ (iJ fO O O) (JG O (fun h1 => ?_))))
 (try simp only [Z] at h1)
 refine aY (bJ O (aY (dK O (aY (bI 0 gQ O sizeOf113 O (aY (fC nN O (wL).get.2 O (aY (aQ (Zp nN O O) (fG O O (fA O (dI results69 O ?_))))))))))))
 exact ⟨O, O⟩
theorem rM (H : V w0 w F) : iQ prog 22 #[] w fun v w' => ∃ m, v = .pointer (some ⟨m, 0, none⟩) ∧ V w0 w' (jY m VM.new • F) := by
  refine YP func22 ntmps22 ?_
  refine ku O (iy (kF (lF (Aw .i32) H) ?_))
  rintro _ w1 ⟨b1, rfl, H1⟩
  refine aQ (fU (zl := [.map none, .int .i32 0, .int .i32 0, .string .empty, .slice none 0 0, .int .i64 0, .slice none 0 0, .int .i64 0]) (pl := [(0, 1), (1, 2), (3, 4), (7, 1)]) [_, _, _, _, _, _, _, _] gQ zeroValue119 O (fun w => by kernel_rfl) O (.on (.zero (zs := [.int .i32 0, .int .i32 0]) O (.zero (zs := [.string .empty, .slice none 0 0, .int .i64 0, .slice none 0 0]) O (.on .nil)))) O) ?_
  refine kF (jF (l := [_, _, _, _, _, _, _, _]) H1 O O) ?_
  rintro _ w2 ⟨b2, rfl, H2⟩
  refine fA O (dI results22 O ?_)
  exact ⟨_, O, V.CS VM.Rj ((ND (ND H2)).of_eq (by ac_rfl))⟩
def VM.at (M : VM) (r : Int) : Int := (M.marks r).getD (-1)
theorem UD {r : Int} (H : V w0 w (jY m M • F)) : iQ prog 183 #[.pointer (some ⟨m, 0, none⟩), .int .i32 r] w fun v w' => v = .int .i64 (M.at r) ∧ V w0 w' (jY m M • F) := by
  refine qc func183 ntmps183 ?_
  refine ku O (aI (bM O (dS O func69 (BF H) ?_)))
  rintro _ _ ⟨rfl, rfl⟩
  refine iE (oh (fV (aI (aI ?_))))
  obtain ⟨NG, KJ, Ju, tX, wL⟩ := (H).vm
  refine aB (oq O O (bI 0 gQ O sizeOf113 O (fC nN O (wL).get.2 O (bJ O (aQ (Ew (wL.f2) nN bC zeroValue3 O O) (bJ O (pW O O (pW O O (gU O (dZ O (bM O (jr O (fun h1 => ?_) (fun h1 => ?_)))))))))))))
  · (try simp only [Z] at h1)
    try (exfalso; first | contradiction | omega)
    all_goals
      obtain ⟨z, hz⟩ := Option.isSome_iff_exists.1 h1
      obtain ⟨a, ha⟩ : ∃ a, M.marks r = some a := by cases hq : M.marks r with | none => (unfold EL at hz; rw [hq] at hz; cases hz) | some a => exact ⟨a, rfl⟩
      refine bM O (fA O (aA (dI results183 O ?_)))
      have TA := wL.f4.f4.f4.f4
      have SA := V.CS (M := M) tX TA
      exact ⟨by unfold VM.at; rw [ha]; first | rfl | (unfold EL; rw [ha]; rfl), SA⟩
  · (try simp only [Z] at h1)
    try (exfalso; first | contradiction | omega)
    all_goals
      have ha : M.marks r = none := by cases hq : M.marks r with | none => rfl | some a => (have h9 := h1; unfold EL at h9; rw [hq] at h9; cases h9)
      refine fV (kC O (dI results183 O ?_))
      have Ho7 := wL.f4.f4.f4.f4
      have Hc8 := V.CS (M := M) tX Ho7
      exact ⟨by unfold VM.at; rw [ha]; first | rfl | (unfold EL; rw [ha]; rfl), Hc8⟩
theorem Rz (H : V w0 w (jY m M • F)) : iQ prog 38 #[.pointer (some ⟨m, 0, none⟩)] w fun v w' => ∃ c, v = .pointer (some ⟨c, 0, none⟩) ∧ V w0 w' (jY c M • jY m M • F) := by
 refine ji func38 ntmps38 ?_
 refine ku O (aI (bM O (dS O func69 (BF H) ?_)))
 rintro _ _ ⟨rfl, rfl⟩
 refine iE (oh (fV (aI ?_)))
 obtain ⟨NG, KJ, Ju, tX, wL⟩ := (H).vm
 have hvk := tX.1
 have hvt := tX.2.1
 refine aB (oq O O (aQ (dV gQ O sizeOf119 O O (wL).get.2) (kF (iR (l := [_, _, _, _, _, _, _, _]) wL zeroValue119 O) ?_)))
 rintro _ w3 ⟨b3, rfl, H3⟩
 refine aJ (dG 0 (l' := [_, _, _, _, _, _, _, _]) (us := [_, _, _, _, _, _, _, _]) H3 sizeOf119 O O O (aG (aG (aG (aG (bg (by first | rfl | exact Rd.one ((H3.f4).kD)) (aG (bg (by first | rfl | exact Rd.one ((H3.f5).kD)) (aG bW)))))))) O O) ?_
 rintro _ w4 H4
 refine zk7 (kF (lF (Aw .i32) H4) ?_)
 rintro _ w5 ⟨b5, rfl, H5⟩
 refine bI 0 gQ O sizeOf113 O (aJ (gB 0 (l' := [_, _, _, _, _, _, _, _]) H5.f2 sizeOf113 O O (by first | rfl | assumption) O O) ?_)
 rintro _ w6 H6
 refine rP (bM O (dK O (bI 0 gQ O sizeOf113 O (fC nN O (H6.f3).get.2 O (kF (Ey H6.f4 nN O) ?_)))))
 rintro _ w7 ⟨it7, mi, rfl, H7⟩
 refine iE (bf ?_)
 obtain ⟨R8, hR8, HR8⟩ := V.Ls (H7.f2.f3.f3)
 have HX0 := HR8
 rw [← TV (EL M.marks)] at HX0
 refine iC [(0, _), (3, _), (17, _)] (fun (⟨S, n⟩ : List Int × Nat) => []) (fun (⟨S, n⟩ : List Int × Nat) W => V w0 W (F8 Y5 NG it7 (EL M.marks) S n • iV Y5 b5 (Q9 (EL M.marks) S) • eP b3 (.cells #[.map (some b5), .int .i32 M.fk, .int .i32 M.fc, .string M.name, KJ, .int .i64 M.n, Ju, .int .i64 M.frm] 119 (0, 0)) • R8)) (fun (⟨S, n⟩ : List Int × Nat) => n) (([], _)) vC (Sub.nil _) HX0 ?_
 rintro ⟨S, n⟩ w9 HL
 dsimp only [List.cons_append, List.nil_append]
 refine iy (kF (Gw HL O) ?_)
 rintro _ w10 ⟨ox, Sx, mx, rfl, hNx, pz⟩
 refine aQ (aaS O) (rP (aZ O (fun h1 => ?_) (fun h1 => ?_)))
 ·(try simp only [Z] at h1)
  try (exfalso; first | contradiction | omega)
  all_goals
   obtain ⟨⟨a, u⟩, rfl⟩ := Option.isSome_iff_exists.1 h1
   obtain ⟨ha, hns, hlt, rfl⟩ := hNx
   refine fV (bf (iy ?_))
   refine aQ (Q7 (pz) (by assumption) O) ?_
   refine pW O O (pW O O (gU O (dZ O (aB (bI 0 gQ O sizeOf113 O (fC nN O (pz.f3).get.2 O (jX O O (aJ (yK pz.f2 nN bC O O O) ?_))))))))
   rintro _ FM rY
   refine bZ (aH ?_)
   have hres := PU (S := S) ha
   refine dX ((S ++ [a], mx)) ?_ ?_ ?_ ?_
   ·exact (Sub.nil _)
   ·exact vC
   ·(try dsimp only)
    first | done | exact (by rw [hres]; exact rY.f3.f2.f3)
   ·(try dsimp only); omega
 ·(try simp only [Z] at h1)
  try (exfalso; first | contradiction | omega)
  all_goals
   obtain rfl := Jj (o := ox) (by simp [h1])
   obtain ⟨rfl, rfl, hall⟩ := hNx
   refine dR (aO ?_)
   have HX := pz.f3.f2.f3
   rw [TW hall] at HX
   have Rh := HX.f2
   have Ri := Rh.Ji
   subst hR8
   refine aO (bG (aX (aI ?_)))
   have aev := Ri.drew
   have AU := V.kp (aev.f6.f6.f6.f6.f6.f6)
   refine uN [4, 10] AU O (gX 0 O AU O (jE 1 O AU O (gy 2 O AU 3 gQ O rO O (gy 3 O AU 1 jd O bV O (jf 4 O AU (fun W hW => jv ah O ((Kp.h hW).f4).get.2 O) (gX 6 O AU O (jE 7 O AU O (gy 8 O AU 3 gQ O rO O (gy 9 O AU 3 jd O bV O (jf 10 O AU (fun W hW => jv ah O ((Kp.h hW).f4).get.2 O) (mQ 5 O (wR O func71 (oL aev (fun W HW => (HW.f5).kD) (by omega))) ?_)))))))))))
   rintro u14 Pz yF
   have Hz := V.kp (yF.f7.f7.f7.f7.f7.f7.f7)
   refine fD Hz (fun W hW => (Kp.h hW).right.f6.f6.f6.f6.f6.f6) ?_
   refine mQ 11 O (wR O func71 (oL yF (fun W HW => (HW.f7).kD) (by omega))) ?_
   rintro u15 QI yA
   have y9 := V.kp (yA.f8.f8.f8.f8.f8.f8.f8.f8)
   refine iK y9 (by kernel_rfl) ?_
   refine gy 12 O y9 3 gQ O rO O (gy 13 O y9 1 jd O bV O ?_)
   refine iH 14 O (by kernel_rfl) (gB 4 (l' := [_, _, _, _, _, _, _, _]) yA.f5 bV O O (by first | rfl | exact Rd.one ((yA.f2).aP)) O O) ?_
   rintro _ w16 vN
   have yI := V.kp (vN.f8.f8.f8.f8.f8.f8.f8.f8)
   refine iK yI (by kernel_rfl) ?_
   refine gy 15 O yI 3 gQ O rO O (gy 16 O yI 3 jd O bV O ?_)
   refine iH 17 O (by kernel_rfl) (gB 6 (l' := [_, _, _, _, _, _, _, _]) vN bV O O (by first | rfl | exact Rd.one ((vN.f2).aP)) O O) ?_
   rintro _ Z5 DF
   have Ep := V.kp (DF.f8.f8.f8.f8.f8.f8.f8.f8)
   refine iK Ep (by kernel_rfl) ?_
   refine pq (aX (kC O (dI results38 O ?_)))
   have afB := DF.f3
   have afC := afB.mY
   have aaX := afC.f3
   have Ws := aaX.mY
   have abM := Ws.f8.f8.f6.f8
   have abN := V.CS (M := M) tX abM
   exact ⟨_, O, V.CS tX abN.f2.f3.f5.f5⟩
end
end Go.Proofs.YtpdeedplgmbopaaGreatDoor
end
section
namespace Go.Proofs.YtpdeedplgmbopaaGreatDoor
open Go.RowKit
theorem oK {P : Program} {L : List (Nat × Value)} {w : World} {ty t : TypeId} {fs : Array Field} {f : Field} {i : Nat} {x : Operand} {cs : Array Value} {u : Value} (off : Nat) (ht : P.underlying t = some (.struct fs)) (hf : fs[i]? = some f) (ho : f.offset = off) (hp : ug P f.type = true) (hx : ev L x = some (.agg cs)) (hc : cs[off]? = some u) :
    Val P L (.field t x i) ty w u w := fun ρ hρ _ _ _ _ => by
  simp [execOp, hρ _ _ hx, Instr.field, run_underlying ht, hf, part, asAgg, He hp, ho, hc]
end Go.Proofs.YtpdeedplgmbopaaGreatDoor
end
