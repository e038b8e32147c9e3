import Derived.Test.YtpdeedplgmbopaaGreatDoorZ4
import Derived.Test.YtpdeedplgmbopaaGreatDoorZ13
import Derived.Test.YtpdeedplgmbopaaGreatDoorZ9
import Derived.Test.YtpdeedplgmbopaaGreatDoorZ8
import Derived.Test.YtpdeedplgmbopaaGreatDoorZ6
import Derived.Test.YtpdeedplgmbopaaGreatDoorZ7
import Derived.Test.YtpdeedplgmbopaaGreatDoorZ5
import Derived.Test.YtpdeedplgmbopaaGreatDoorZ11
import Derived.Test.YtpdeedplgmbopaaGreatDoorZ16
set_option linter.unusedSimpArgs false
set_option linter.unusedVariables false
/- Texts of mine, joined, their names in short: RLs Ref7 Ref7b BufAny Ref7c RefAny RefRing REd REdX RLs2 REdA REd0 EBoth0. -/
section
namespace Go.Proofs.YtpdeedplgmbopaaGreatDoor
open Go.RowKit
def xM (sz : Nat) (v : Value) (n : Nat) (xs : List Value) : HP := know (fun I => Ey I sz v n xs) fun _ _ hl h => h.mono hl
abbrev LE := Int × Value × List (Value × List eF)
def DY (gs : List (Value × List eF)) : List (List jl) := gs.map fun g => g.2.map eF.says
def FY (A : List LE) (k : Int) : List (List jl) := ((A.find? fun x => x.1 == k).map fun x => DY x.2.2).getD []
def Bg (A : List LE) (k : Int) (u : Value) (gs : List (Value × List eF)) : List LE := A.filter (fun x => x.1 != k) ++ [(k, u, gs)]
def GlI (I : Hp) (v : Value) (gs : List (Value × List eF)) : Prop := Ey I 1 v gs.length (gs.map (·.1)) ∧ Fg I gs
theorem GlI.mono {I I' : Hp} {v : Value} {gs : List (Value × List eF)} (hl : Hp.le I I') (h : GlI I v gs) : GlI I' v gs := ⟨h.1.mono hl, h.2.mono hl⟩
def glK (v : Value) (gs : List (Value × List eF)) : HP := xM 1 v gs.length (gs.map (·.1)) • pJ gs
def abr (I : Hp) (A : List LE) : Prop := ∀ k, k < A.length → GlI I (A.getD k default).2.1 (A.getD k default).2.2
def sU (A : List LE) : HP := know (fun I => abr I A) fun _ _ hl h k hk => (h k hk).mono hl
def lsK (pv gv : Value) (A : List LE) : HP := oI .i64 pv (A.map (·.1)) • xM 1 gv A.length (A.map (·.2.1)) • sU A
theorem abt (A : List LE) (k : Int) (u : Value) (gs : List (Value × List eF)) : FY (Bg A k u gs) = vS (FY A) k (DY gs) := by
  funext j
  unfold FY Bg vS
  rw [List.find?_append]
  by_cases hj : j = k
  · subst hj
    rw [if_pos rfl, List.find?_eq_none.2 (by intro x hx; simp at hx; simpa using hx.2)]
    simp
  · rw [if_neg hj, List.find?_filter]
    have h1 : (fun a : LE => decide (a.1 != k ∧ (a.1 == j) = true)) = fun a : LE => a.1 == j := by
      funext a
      by_cases ha : a.1 = j
      · simp [ha, hj]
      · simp [ha]
    have h2 : (fun a : LE => (a.1 != k) && (a.1 == j)) = fun a : LE => a.1 == j := by
      funext a
      by_cases ha : a.1 = j
      · simp [ha, hj]
      · simp [ha]
    have h3 : ([(k, u, gs)] : List LE).find? (fun x => x.1 == j) = none := by
      rw [List.find?_eq_none]; intro x hx; rw [List.mem_singleton.1 hx]; simpa using Ne.symm hj
    first
      | rw [h3, Option.or_none, h2]
      | rw [h3, Option.or_none, h1]
      | (simp only [h3, Option.or_none, h2, h1])
theorem adj {A : List LE} {k : Int} {i : Nat} (hi : i < A.length) (hn : ∀ j, j < i → (A.getD j default).1 ≠ k) (he : (A.getD i default).1 = k) : FY A k = DY (A.getD i default).2.2 := by
  induction A generalizing i with
  | nil => simp at hi
  | cons x r ih =>
    unfold FY
    rw [List.find?_cons]
    cases i with
    | zero =>
      have : x.1 = k := he
      rw [show (x.1 == k) = true from by simpa using this]; rfl
    | succ m =>
      have h0 : x.1 ≠ k := hn 0 (by omega)
      rw [show (x.1 == k) = false from by simpa using h0]
      exact ih (i := m) (by simpa using hi) (fun j hj => hn (j + 1) (by omega)) he
theorem ZX {A : List LE} {k : Int} (hn : ∀ j, j < A.length → (A.getD j default).1 ≠ k) : FY A k = [] := by
  unfold FY
  rw [List.find?_eq_none.2]
  · rfl
  · intro x hx
    obtain ⟨j, hj, rfl⟩ := List.getElem_of_mem hx
    have := hn j hj
    rw [List.getD_eq_getElem?_getD, List.getElem?_eq_getElem hj] at this
    simpa using this
theorem Oi : ∀ (n : Nat) (l : List Int), l.Nodup → (∀ x ∈ l, 0 ≤ x ∧ x < n) → l.length ≤ n
  | 0, l, _, h => by
    cases l with
    | nil => simp
    | cons x r => have := h x (List.mem_cons_self ..); omega
  | n + 1, l, hn, h => by
    have h1 : (l.erase (n : Int)).length ≤ n := Oi n (l.erase n) (hn.erase _) (fun x hx => by
      have hm := (List.Nodup.mem_erase_iff hn).1 hx
      have := h x hm.2
      have := hm.1
      omega)
    have h2 : l.length ≤ (l.erase (n : Int)).length + 1 := by rw [List.length_erase]; split <;> omega
    omega
theorem Si (A : List LE) (k : Int) (u : Value) (gs : List (Value × List eF)) : (Bg A k u gs).map (·.1) = (A.map (·.1)).filter (· != k) ++ [k] := by
  unfold Bg
  rw [List.map_append, List.filter_map]; rfl
theorem abu {A : List LE} {n : Int} {k : Int} {u : Value} {gs : List (Value × List eF)} (h : (A.map (·.1)).Nodup ∧ ∀ x ∈ A.map (·.1), 0 ≤ x ∧ x ≤ n) (hk : 0 ≤ k ∧ k ≤ n) :
    ((Bg A k u gs).map (·.1)).Nodup ∧ ∀ x ∈ (Bg A k u gs).map (·.1), 0 ≤ x ∧ x ≤ n := by
  rw [Si]
  refine ⟨List.nodup_append.2 ⟨h.1.filter _, by simp, fun a ha b hb => ?_⟩, fun x hx => ?_⟩
  · rw [List.mem_singleton.1 hb]
    have := (List.mem_filter.1 ha).2
    simpa using this
  · rcases List.mem_append.1 hx with hx | hx
    · exact h.2 x (List.mem_filter.1 hx).1
    · rw [List.mem_singleton.1 hx]; exact hk
theorem U1 {A : List LE} {n : Int} (h : (A.map (·.1)).Nodup ∧ ∀ x ∈ A.map (·.1), 0 ≤ x ∧ x ≤ n) (hn : 0 ≤ n ∧ n ≤ 4096) : A.length ≤ 4097 := by
  have := Oi (n.toNat + 1) _ h.1 (fun x hx => by have := h.2 x hx; omega)
  rw [List.length_map] at this
  omega
section
variable {w0 w : World} {F : HP} {v u pv gv : Value} {n sz k : Nat} {xs : List Value} {es : List eF} {gs : List (Value × List eF)} {A : List LE} {x : LE}
theorem V.qM (H : V w0 w (xM sz v n xs • F)) : Rd w sz v n xs := let ⟨I, h, hI⟩ := H.tX; h.rd hI
theorem V.ZY (H : V w0 w (xM sz v n xs • F)) : V w0 w (xM sz v n xs • xM sz v n xs • F) := H.vw
theorem V.U2 (H : V w0 w F) (a : Option Addr) : V w0 w (xM sz (.slice a 0 0) 0 [] • F) := H.yB fun I => ⟨by simp, a, 0, rfl, by omega, by decide, fun h => by omega⟩
theorem V.IE {t : TypeId} (H : V w0 w (Row t sz v n xs • F)) : V w0 w (xM sz v n xs • F) := by
  have hl := H.yx
  rcases H.vG with ⟨a, rfl, h1, h2, H1⟩ | ⟨g, o, c, cur, rfl, h2, h3, h4, h5, H1⟩
  · subst h1; exact H1.yB fun I => ⟨hl, a, 0, rfl, by omega, by decide, fun h => by omega⟩
  · exact H1.freeze.FV (qI (fun I hI => ⟨hl, _, c, rfl, h2, h3, fun _ => ⟨g, o, cur, _, (0, 0), rfl, hI, h5⟩⟩) F)
theorem V.V7 (H : V w0 w (glK v gs • F)) : V w0 w (xM 1 v gs.length (gs.map (·.1)) • pJ gs • F) := H.flat
theorem V.abv (H : V w0 w F) (a : Option Addr) : V w0 w (glK (.slice a 0 0) [] • F) := V.deep (H.J9.U2 (sz := 1) a)
theorem V.DZ (H : V w0 w (Fh v gs • F)) : V w0 w (glK v gs • F) := V.deep (H.aaO.IE)
theorem V.V8 {p : Int} (H : V w0 w (sU A • F)) (hk : k < A.length) (hx : A.getD k default = (p, v, gs)) : V w0 w (xM 1 v gs.length (gs.map (·.1)) • pJ gs • sU A • F) := by
  have H2 : V w0 w (xM 1 (A.getD k default).2.1 (A.getD k default).2.2.length ((A.getD k default).2.2.map (·.1)) • sU A • sU A • F) := H.vw.vw.FV (qI (fun I h => (h k hk).1) _)
  have H3 : V w0 w (pJ (A.getD k default).2.2 • xM 1 (A.getD k default).2.1 (A.getD k default).2.2.length ((A.getD k default).2.2.map (·.1)) • sU A • F) := H2.f2.FV (qI (fun I h => (h k hk).2) _)
  rw [hx] at H3
  exact H3.f2
theorem abr.set {I : Hp} {p : Int} (h : abr I A) (g : GlI I u gs) : abr I (Bg A p u gs) := by
  have hm : ∀ x ∈ A, GlI I x.2.1 x.2.2 := fun x hx => by
    obtain ⟨j, hj, rfl⟩ := List.getElem_of_mem hx
    have := h j hj
    rwa [List.getD_eq_getElem?_getD, List.getElem?_eq_getElem hj] at this
  have hm2 : ∀ x ∈ Bg A p u gs, GlI I x.2.1 x.2.2 := fun x hx => by
    rcases List.mem_append.1 hx with hx | hx
    · exact hm x (List.mem_filter.1 hx).1
    · rw [List.mem_singleton.1 hx]; exact g
  intro j hj
  rw [List.getD_eq_getElem?_getD, List.getElem?_eq_getElem hj]
  exact hm2 _ (List.getElem_mem hj)
theorem V.Z4 {p : Int} (H : V w0 w (sU A • xM 1 u gs.length (gs.map (·.1)) • pJ gs • F)) : V w0 w (sU (Bg A p u gs) • F) := by
  have H1 : V w0 w (know (fun I => GlI I u gs) (fun _ _ hl h => h.mono hl) • sU A • F) := (H.f3.f3 : V w0 w (xM 1 u gs.length (gs.map (·.1)) • pJ gs • sU A • F)).FV (rJ (fun I h g => ⟨h, g⟩) _)
  exact H1.f2.FV (rJ (fun I h g => h.set g) _)
theorem V.Sj (H : V w0 w F) : V w0 w (sU [] • F) := H.yB fun I k hk => by simp at hk
theorem V.Sl {k : IntKind} (H : V w0 w F) (a : Option Addr) : V w0 w (oI k (.slice a 0 0) [] • F) := H.yB fun I => ⟨a, 0, rfl, by simp, by decide, fun h => by simp at h⟩
end
end Go.Proofs.YtpdeedplgmbopaaGreatDoor
end
section
namespace Go.Proofs.YtpdeedplgmbopaaGreatDoor
open Go.RowKit
open _root_.Go.Proofs.Tryz
def GY (v : Value) (pt mk : Int) : Array Value := #[v, .int .i64 pt, .int .i64 mk]
def pV (p : Nat) (L : List Int) (pt mk : Int) : HP := uZ fun (v : Value) => fact (L.length ≤ 1024 ∧ (0 ≤ pt ∧ pt ≤ L.length) ∧ (-1 ≤ mk ∧ mk ≤ L.length)) • dW p (.cells (GY v pt mk) 222 (0, 0)) • jW 21 .i32 v L
section
variable {w0 w : World} {F : HP} {p : Nat} {L : List Int} {pt mk : Int} {v : Value} {l : List Int} {i j : Int}
theorem V.ref (H : V w0 w (pV p L pt mk • F)) : ∃ (a : Option Addr) (c : Nat), L.length ≤ 1024 ∧ (0 ≤ pt ∧ pt ≤ L.length) ∧ (-1 ≤ mk ∧ mk ≤ L.length) ∧ L.length ≤ c ∧ (c : Int) ≤ 9223372036854775807 ∧
    V w0 w (dW p (.cells (GY (.slice a L.length c) pt mk) 222 (0, 0)) • jW 21 .i32 (.slice a L.length c) L • F) := by
  obtain ⟨v, H⟩ := H.nN
  obtain ⟨⟨h1, h2, h3⟩, H⟩ := H.flat.fact
  have H := H.flat
  obtain ⟨a, c, hv, hc1, hc2, _⟩ := (H.swap.aQ).form
  subst hv
  exact ⟨a, c, h1, h2, h3, hc1, hc2, H⟩
theorem V.U3 (h1 : L.length ≤ 1024) (h2 : 0 ≤ pt ∧ pt ≤ L.length) (h3 : -1 ≤ mk ∧ mk ≤ L.length) (H : V w0 w (dW p (.cells (GY v pt mk) 222 (0, 0)) • jW 21 .i32 v L • F)) : V w0 w (pV p L pt mk • F) :=
  V.jv v (V.deep (V.lJ ⟨h1, h2, h3⟩ (V.deep H)))
theorem PS (H : V w0 w F) (hr : jE w0 F .i32 v l) (hl : 1024 < l.length) : iI prog 112 #[v] w fun v' w' => v' = .tuple #[.pointer none, .int .i64 3] ∧ w = w' := by
  obtain ⟨a, c, rfl, _, _, _⟩ := (hr w H).open
  refine jr func112 ntmps112 ?_
  refine iV (iJ O (vY O (bT O (Z (jc aj O) (Z (dY O O) (iL (wcA O (fun h1 => ?_))))))))
  (try simp only [aA] at h1)
  refine iV (iJ O (fC O (aB (P5 results112 O O ?_))))
  exact ⟨O, O⟩
theorem Sm (H : V w0 w F) (hr : jE w0 F .i32 v l) (hl : l.length ≤ 1024) : iI prog 112 #[v] w fun v' w' => ∃ p, v' = .tuple #[.pointer (some ⟨p, 0, none⟩), .int .i64 0] ∧ V w0 w' (pV p l l.length (-1) • F) := by
  obtain ⟨a, c, rfl, hc1, hc2, _⟩ := (hr w H).open
  refine jr func112 ntmps112 ?_
  refine iV (iJ O (vY O (bT O (Z (jc aj O) (Z (dY O O) (iL (TB O (fun h1 => ?_))))))))
  (try simp only [aA] at h1)
  refine gQ (jR O (bT O (bP O (jV (nG (l := []) (H.jw none) (hr _ H) aj Dj O O (by simp only [List.length_nil]; omega) (by simp only [List.length_nil]; omega)) ?_))))
  rintro u w1 H1
  rw [List.nil_append] at H1
  obtain ⟨au, cu, hu, _⟩ := (H1.aQ).form
  subst hu
  refine fP O (bT O (bP O (Z (jc aj O) (Z (mF (pl := #[(0, 1), (1, 1), (2, 1)]) (GY (.slice au l.length cu) l.length (-1)) underlying222 zeroValue222 (fun w => by kernel_rfl) O (by kernel_rfl)) (jV (Ve H1 O) ?_)))))
  rintro _ w2 ⟨b2, rfl, H2⟩
  refine iJ O (fC O (P5 results112 O O ?_))
  exact ⟨_, O, V.U3 hl (by omega) (by omega) H2⟩
end
end Go.Proofs.YtpdeedplgmbopaaGreatDoor
end
section
namespace Go.Proofs.YtpdeedplgmbopaaGreatDoor
open Go.RowKit
section
variable {w0 w : World} {F : HP} {p : Nat} {L : List Int} {pt mk x : Int} {v : Value} {l : List Int}
end
end Go.Proofs.YtpdeedplgmbopaaGreatDoor
end
section

end
section
namespace Go.Proofs.YtpdeedplgmbopaaGreatDoor
open Go.RowKit
section
variable {w0 w : World} {F : HP} {p : Nat} {L : List Int} {pt mk x : Int} {v : Value} {l : List Int}
end
section
variable {w0 w : World} {F : HP} {p : Nat} {L : List Int} {pt mk : Int} {v d s : Value} {l dl il : List Int} {i j a x : Int}
end
end Go.Proofs.YtpdeedplgmbopaaGreatDoor
end
section
namespace Go.Proofs.YtpdeedplgmbopaaGreatDoor
open Go.RowKit
open _root_.Go.Proofs.Tryz
section
variable {w0 w : World} {F : HP} {p place : Nat} {E ls : List (List Int)} {v x y : Value} {l m : List Int} {vs : List Value}
theorem Z5 (H : V w0 w F) (h1 : jE w0 F .i32 x l) (h2 : jE w0 F .i32 y m) (hb : l.length + m.length ≤ 35184372088832) :
    iI prog 181 #[x, y] w fun v w' => V w0 w' (jW 21 .i32 v (l ++ m) • F) := by
  refine oN func181 ntmps181 ?_
  refine jR O (jR O (bT O (bP O (jV (nG (l := []) (H.jw none) (h1 _ (H)) aj Z7 O O (by first | omega | (simp only [List.length_append, List.length_nil, List.length_cons]; omega) | (simp; omega)) (by first | omega | (simp only [List.length_append, List.length_nil, List.length_cons]; omega) | (simp; omega))) ?_))))
  rintro l1 w1 H1
  try simp only [List.nil_append] at H1
  refine fP O (bT O (bP O (jV (nG H1 (h2 _ (H1.right)) aj Z7 O O (by first | omega | (simp only [List.length_append, List.length_nil, List.length_cons]; omega) | (simp; omega)) (by first | omega | (simp only [List.length_append, List.length_nil, List.length_cons]; omega) | (simp; omega))) ?_)))
  rintro l2 w2 H2
  try simp only [List.nil_append] at H2
  refine fC O (dK results181 O ?_)
  simpa using H2
theorem XH (H : V w0 w F) (h1 : jE w0 F .i32 x l) (hb : l.length ≤ 35184372088832) :
    iI prog 181 #[x, .slice none 0 0] w fun v w' => V w0 w' (jW 21 .i32 v l • F) := by
  have := Z5 H h1 (fun W _ => gJ.nil W .i32 none 0 (by decide)) (by simpa using hb)
  simpa using this
def nV (p : Nat) (E : List (List Int)) (place : Nat) : HP := uZ fun v => dW p (.cells #[v, .int .i64 place] 176 (0, 0)) • LL 22 .i32 v E
theorem V.ae0 (H : V w0 w (nV p E place • F)) : ∃ v, V w0 w (dW p (.cells #[v, .int .i64 place] 176 (0, 0)) • LL 22 .i32 v E • F) := let ⟨v, h⟩ := H.nN; ⟨v, h.flat⟩
theorem V.LG (H : V w0 w (dW p (.cells #[v, .int .i64 place] 176 (0, 0)) • LL 22 .i32 v E • F)) : V w0 w (nV p E place • F) := V.jv v H.deep
theorem LH {α : Type _} {l : List α} {k : Nat} {d : α} (h : k < l.length) : l.take (k + 1) = l.take k ++ [l.getD k d] := by rw [List.take_succ_eq_append_getElem h, List.getD_eq_getElem?_getD, List.getElem?_eq_getElem h]; rfl
end
end Go.Proofs.YtpdeedplgmbopaaGreatDoor
end
section
namespace Go.Proofs.YtpdeedplgmbopaaGreatDoor
open Go.RowKit
def xJ (hl : List qN) (tx : Int → Option ByteArray) : List ByteArray := (List.range (hl.length + 1)).map fun (k : Nat) => jC hl tx (k : Int)
theorem IG (hl : List qN) (tx : Int → Option ByteArray) : (xJ hl tx).length = hl.length + 1 := by simp [xJ]
theorem Es (hl : List qN) : (pK hl).length = hl.length + 1 := by simp [pK]
theorem Z8 {hl : List qN} {tx : Int → Option ByteArray} {k : Nat} (hk : k ≤ hl.length) : (xJ hl tx).getD k .empty = jC hl tx k := by
  unfold xJ
  rw [List.getD_eq_getElem?_getD, List.getElem?_map, List.getElem?_range (by omega)]; rfl
theorem Z9 {hl : List qN} {k : Nat} (hk : k ≤ hl.length) : (pK hl).getD k .empty = zS hl k := by
  unfold pK zS QH
  by_cases h : k < hl.length
  · rw [if_pos (by omega), List.getD_eq_getElem?_getD, List.getElem?_append_left (by simpa using h), List.getElem?_map, List.getElem?_eq_getElem h]
    simp [List.getD_eq_getElem?_getD, h]
  · obtain rfl : k = hl.length := by omega
    rw [if_neg (by omega), List.getD_eq_getElem?_getD, List.getElem?_append_right (by simp)]
    simp
theorem LJ (hl : List qN) : xJ hl (fun _ => none) = pK hl := by
  apply List.ext_getElem?
  intro k
  by_cases h : k ≤ hl.length
  · have h1 := Z8 (tx := fun _ => none) h
    have h2 := Z9 h
    rw [List.getD_eq_getElem?_getD, List.getElem?_eq_getElem (by rw [IG]; omega)] at h1
    rw [List.getD_eq_getElem?_getD, List.getElem?_eq_getElem (by rw [Es]; omega)] at h2
    rw [List.getElem?_eq_getElem (by rw [IG]; omega), List.getElem?_eq_getElem (by rw [Es]; omega)]
    simp only [Option.getD_some] at h1 h2
    rw [h1, h2]; rfl
  · rw [List.getElem?_eq_none (by rw [IG]; omega), List.getElem?_eq_none (by rw [Es]; omega)]
def GZ (c : nY) : Prop := (∀ k, gG (c.un k) [] ≤ 16384 ∧ ∀ g ∈ c.un k, g ≠ []) ∧ (c.E.length ≤ 60 ∧ (c.at_ < c.E.length ∨ c.at_ = 0) ∧ ∀ e ∈ c.E, e.length ≤ 1024)
def RX (s : bC) : Prop := GZ s.c ∧ (s.inn = true → GZ s.was ∧ s.c.last = s.was.last ∧ (s.kU = false → s.c.fr = s.was.fr ∧ s.c.to = s.was.to)) ∧ (s.inn = true → s.cls = 2 → s.kU = true)
def xR (hl : List qN) (A : List LE) : Prop := (A.map (·.1)).Nodup ∧ ∀ x ∈ A.map (·.1), 0 ≤ x ∧ x ≤ (hl.length : Int)
def II (pb pk : Nat) (wv nv pv gv : Value) (hl : List qN) (c : nY) : List Value := [.pointer (some ⟨pb, 0, none⟩), .pointer (some ⟨pk, 0, none⟩), wv, nv, .int .i64 c.place, .string (jC hl c.tx c.place), pv, gv, .int .i64 c.mode, .bool c.over, .int .i64 c.res, .bool c.run]
structure ROP where
  pb : Nat
  pk : Nat
  wv : Value
  nv : Value
  pv : Value
  gv : Value
  A : List LE
def ED (inn : Bool) (hl : List qN) (c : nY) (u : List Value) : HP := if inn = true then uZ fun (x : ROP) => fact (u = II x.pb x.pk x.wv x.nv x.pv x.gv hl c ∧ FY x.A = c.un ∧ xR hl x.A ∧ (u.all fun x => x.oneCell') = true) •
  pV x.pb c.L c.pt c.mark • nV x.pk c.E c.at_ • xM 1 x.wv (hl.length + 1) (strs (pK hl)) • Row 9 1 x.nv (hl.length + 1) (strs (xJ hl c.tx)) • oI .i64 x.pv (x.A.map (·.1)) • xM 1 x.gv x.A.length (x.A.map (·.2.1)) • sU x.A else fact ((u.all fun x => x.oneCell') = true)
structure iH (s : bC) (es : List eF) (A : List LE) (yf yt : Int) : Prop where
  ok : lI s
  rx : RX s
  says : es.map eF.says = s.put
  FY : FY A = s.c.un
  placed : xR s.hl A
  MI : s.inn = true → s.kU = true → yf = s.c.fr ∧ yt = s.c.to
structure RdP where
  h : Nat
  pb : Nat
  pk : Nat
  wv : Value
  nv : Value
  pv : Value
  gv : Value
  A : List LE
  nw : Value
  es : List eF
  yf : Int
  yt : Int
  ch : Bool
  u0 : Value
  u1 : Value
  u2 : Value
  u3 : Value
  u4 : Value
  u5 : Value
  u6 : Value
  u7 : Value
  u8 : Value
  u9 : Value
  ua : Value
  ub : Value
def qU (y : Nat) (s : bC) : HP := uZ fun (x : RdP) => match x with
  | ⟨h, pb, pk, wv, nv, pv, gv, A, nw, es, yf, yt, ch, u0, u1, u2, u3, u4, u5, u6, u7, u8, u9, ua, ub⟩ => fact (iH s es A yf yt) • dW y (.cells (.pointer (some ⟨h, 0, none⟩) :: .pointer (some ⟨pb, 0, none⟩) :: .pointer (some ⟨pk, 0, none⟩) :: wv :: nv :: .int .i64 s.c.place :: .string (jC s.hl s.c.tx s.c.place) :: pv :: gv :: .int .i64 s.c.mode :: .bool s.c.over :: .int .i64 s.c.res :: .bool s.c.run :: u0 :: u1 :: u2 :: u3 :: u4 :: u5 :: u6 :: u7 :: u8 :: u9 :: ua :: ub :: .bool s.given :: .bool s.minus :: .int .i64 s.arg :: .int .i64 s.zT :: .int .i64 s.VA :: .int .i64 s.VB :: .int .i64 s.qW :: .bool s.inn :: .int .i64 s.cls :: .int .i64 yf :: .int .i64 yt :: .bool s.argues :: .bool s.kT :: .bool s.kU :: nw :: .bool s.whole :: .bool ch :: []).toArray 174 (0, 0)) • pV pb s.c.L s.c.pt s.c.mark • nV pk s.c.E s.c.at_ • xM 1 wv (s.hl.length + 1) (strs (pK s.hl)) • Row 9 1 nv (s.hl.length + 1) (strs (xJ s.hl s.c.tx)) • oI .i64 pv (A.map (·.1)) • xM 1 gv A.length (A.map (·.2.1)) • sU A • jX h s.hl s.base s.most • Row 189 3 nw s.put.length (es.flatMap eF.enc) • lU es • ED s.inn s.hl s.was [u0, u1, u2, u3, u4, u5, u6, u7, u8, u9, ua, ub]
section
variable {w0 w : World} {F : HP} {y : Nat} {s : bC}
theorem V.Sr (H : V w0 w (qU y s • F)) : ∃ h pb pk wv nv pv gv A nw es yf yt ch u0 u1 u2 u3 u4 u5 u6 u7 u8 u9 ua ub, iH s es A yf yt ∧ es.length = s.put.length ∧ V w0 w (dW y (.cells (.pointer (some ⟨h, 0, none⟩) :: .pointer (some ⟨pb, 0, none⟩) :: .pointer (some ⟨pk, 0, none⟩) :: wv :: nv :: .int .i64 s.c.place :: .string (jC s.hl s.c.tx s.c.place) :: pv :: gv :: .int .i64 s.c.mode :: .bool s.c.over :: .int .i64 s.c.res :: .bool s.c.run :: u0 :: u1 :: u2 :: u3 :: u4 :: u5 :: u6 :: u7 :: u8 :: u9 :: ua :: ub :: .bool s.given :: .bool s.minus :: .int .i64 s.arg :: .int .i64 s.zT :: .int .i64 s.VA :: .int .i64 s.VB :: .int .i64 s.qW :: .bool s.inn :: .int .i64 s.cls :: .int .i64 yf :: .int .i64 yt :: .bool s.argues :: .bool s.kT :: .bool s.kU :: nw :: .bool s.whole :: .bool ch :: []).toArray 174 (0, 0)) • pV pb s.c.L s.c.pt s.c.mark • nV pk s.c.E s.c.at_ • xM 1 wv (s.hl.length + 1) (strs (pK s.hl)) • Row 9 1 nv (s.hl.length + 1) (strs (xJ s.hl s.c.tx)) • oI .i64 pv (A.map (·.1)) • xM 1 gv A.length (A.map (·.2.1)) • sU A • jX h s.hl s.base s.most • Row 189 3 nw s.put.length (es.flatMap eF.enc) • lU es • ED s.inn s.hl s.was [u0, u1, u2, u3, u4, u5, u6, u7, u8, u9, ua, ub] • F) := by
  obtain ⟨⟨h, pb, pk, wv, nv, pv, gv, A, nw, es, yf, yt, ch, u0, u1, u2, u3, u4, u5, u6, u7, u8, u9, ua, ub⟩, H⟩ := H.nN
  obtain ⟨h1, H⟩ := H.flat.fact
  refine ⟨h, pb, pk, wv, nv, pv, gv, A, nw, es, yf, yt, ch, u0, u1, u2, u3, u4, u5, u6, u7, u8, u9, ua, ub, h1, ?_, ?_⟩
  · rw [← h1.says]; simp
  · exact H.of_eq (by simp only [dD])
theorem V.vX {h pb pk : Nat} {wv nv pv gv : Value} {A : List LE} {nw : Value} {es : List eF} {yf yt : Int} {ch : Bool} {u0 u1 u2 u3 u4 u5 u6 u7 u8 u9 ua ub : Value} (h1 : iH s es A yf yt) (H : V w0 w (dW y (.cells (.pointer (some ⟨h, 0, none⟩) :: .pointer (some ⟨pb, 0, none⟩) :: .pointer (some ⟨pk, 0, none⟩) :: wv :: nv :: .int .i64 s.c.place :: .string (jC s.hl s.c.tx s.c.place) :: pv :: gv :: .int .i64 s.c.mode :: .bool s.c.over :: .int .i64 s.c.res :: .bool s.c.run :: u0 :: u1 :: u2 :: u3 :: u4 :: u5 :: u6 :: u7 :: u8 :: u9 :: ua :: ub :: .bool s.given :: .bool s.minus :: .int .i64 s.arg :: .int .i64 s.zT :: .int .i64 s.VA :: .int .i64 s.VB :: .int .i64 s.qW :: .bool s.inn :: .int .i64 s.cls :: .int .i64 yf :: .int .i64 yt :: .bool s.argues :: .bool s.kT :: .bool s.kU :: nw :: .bool s.whole :: .bool ch :: []).toArray 174 (0, 0)) • pV pb s.c.L s.c.pt s.c.mark • nV pk s.c.E s.c.at_ • xM 1 wv (s.hl.length + 1) (strs (pK s.hl)) • Row 9 1 nv (s.hl.length + 1) (strs (xJ s.hl s.c.tx)) • oI .i64 pv (A.map (·.1)) • xM 1 gv A.length (A.map (·.2.1)) • sU A • jX h s.hl s.base s.most • Row 189 3 nw s.put.length (es.flatMap eF.enc) • lU es • ED s.inn s.hl s.was [u0, u1, u2, u3, u4, u5, u6, u7, u8, u9, ua, ub] • F)) : V w0 w (qU y s • F) :=
  V.jv ⟨h, pb, pk, wv, nv, pv, gv, A, nw, es, yf, yt, ch, u0, u1, u2, u3, u4, u5, u6, u7, u8, u9, ua, ub⟩ (V.deep (V.lJ h1 (H.of_eq (by simp only [dD]))))
theorem XI {inn : Bool} {hl : List qN} {c : nY} {u : List Value} (H : V w0 w (ED inn hl c u • F)) : (u.all fun x => x.oneCell') = true := by
  unfold ED at H
  cases inn with
  | true =>
    rw [if_pos rfl] at H
    obtain ⟨x, H⟩ := H.nN
    exact H.flat.fact.1.2.2.2
  | false =>
    rw [if_neg (by decide)] at H
    exact H.fact.1
theorem V.G6 {hl : List qN} {c : nY} {u : List Value} (H : V w0 w F) (hu : (u.all fun x => x.oneCell') = true) : V w0 w (ED false hl c u • F) := by
  unfold ED
  rw [if_neg (by decide)]
  exact H.lJ hu
theorem V.agA {hl : List qN} {c : nY} {u : List Value} (H : V w0 w (ED true hl c u • F)) : ∃ pb pk wv nv pv gv A, u = II pb pk wv nv pv gv hl c ∧ FY A = c.un ∧ xR hl A ∧ (u.all fun x => x.oneCell') = true ∧
    V w0 w (pV pb c.L c.pt c.mark • nV pk c.E c.at_ • xM 1 wv (hl.length + 1) (strs (pK hl)) • Row 9 1 nv (hl.length + 1) (strs (xJ hl c.tx)) • oI .i64 pv (A.map (·.1)) • xM 1 gv A.length (A.map (·.2.1)) • sU A • F) := by
  unfold ED at H
  rw [if_pos rfl] at H
  obtain ⟨⟨pb, pk, wv, nv, pv, gv, A⟩, H⟩ := H.nN
  obtain ⟨⟨h1, h2, h3, h4⟩, H⟩ := H.flat.fact
  exact ⟨pb, pk, wv, nv, pv, gv, A, h1, h2, h3, h4, H.of_eq (by simp only [dD])⟩
theorem V.abw {hl : List qN} {c : nY} {pb pk : Nat} {wv nv pv gv : Value} {A : List LE} (h2 : FY A = c.un) (h3 : xR hl A) (H : V w0 w (pV pb c.L c.pt c.mark • nV pk c.E c.at_ • xM 1 wv (hl.length + 1) (strs (pK hl)) • Row 9 1 nv (hl.length + 1) (strs (xJ hl c.tx)) • oI .i64 pv (A.map (·.1)) • xM 1 gv A.length (A.map (·.2.1)) • sU A • F)) : V w0 w (ED true hl c (II pb pk wv nv pv gv hl c) • F) := by
  have o1 := (H.f3).qM.one
  have o2 := (H.f4).aQ.one
  have o3 := (H.f5).kN.one
  have o4 := (H.f6).qM.one
  have hu : ((II pb pk wv nv pv gv hl c).all fun x => x.oneCell') = true := by
    unfold II
    simp only [List.all_cons, List.all_nil, o1, o2, o3, o4, Bool.and_true, Bool.true_and]
    rfl
  unfold ED
  rw [if_pos rfl]
  exact V.jv ⟨pb, pk, wv, nv, pv, gv, A⟩ (V.deep (V.lJ ⟨rfl, h2, h3, hu⟩ (H.of_eq (by simp only [dD]))))
end
section
variable {s : bC} {es : List eF} {A : List LE} {yf yt : Int}
theorem iH.kV (h : iH s es A yf yt) (L : List Int) (p m : Int) : iH (s.kV L p m) es A yf yt := ⟨yV h.ok _ _ _, h.rx, h.says, h.FY, h.placed, h.MI⟩
theorem iH.begin (h : iH s es A yf yt) (hi : s.inn = false) : iH s.aZ [] A 0 0 := by
  have h1 := Q8 h.ok hi
  have h0 := h.rx.1
  have hl := h.FY
  have hq := h.placed
  rw [uH hi] at h1 ⊢
  exact ⟨h1, ⟨h0, fun _ => ⟨h0, rfl, fun _ => ⟨rfl, rfl⟩⟩, fun _ h2 => absurd h2 (by show ¬ (0 : Int) = 2; decide)⟩, rfl, hl, hq, fun _ h2 => absurd h2 (by show ¬ false = true; decide)⟩
theorem Oj {c : nY} (h : GZ c) {k : Int} {G : List (List jl)} (h1 : gG G [] ≤ 16384) (h2 : ∀ g ∈ G, g ≠ []) : GZ { c with un := vS c.un k G } := by
  refine ⟨fun j => ?_, h.2⟩
  show gG (vS c.un k G j) [] ≤ 16384 ∧ ∀ g ∈ vS c.un k G j, g ≠ []
  by_cases hj : j = k
  · subst hj; rw [iE]; exact ⟨h1, h2⟩
  · rw [tC _ _ hj]; exact h.1 j
theorem iH.none (h : iH s es A yf yt) {x : jl} (hx : x.2.1.length + x.2.2.length = 0) : iH (s.sH x) es A yf yt := by rw [Gy hx]; exact h
theorem G9 (h : lI s) (hx : GZ s.c) (hp : s.put ≠ []) (on : Bool) : gG (s.jf on) [] ≤ 16384 ∧ (∀ g ∈ s.jf on, g ≠ []) ∧ ∀ g ∈ s.jf on, ∀ e ∈ g, zq e := by
  obtain ⟨h1, h2, h3, h4, h5, h6⟩ := h
  have hs := oU s.here s.put
  have hne := (hx.1 s.c.place).2
  have h6' : ∀ g ∈ s.here, ∀ e ∈ g, zq e := h6 s.c.place
  have key : ∀ (G : List (List jl)) (g : List jl), gG (G ++ [g]) [] ≤ gG s.here s.put → (∀ x ∈ G, x ∈ s.here) → (∀ e ∈ g, zq e) → g ≠ [] →
      gG (G ++ [g]) [] ≤ 16384 ∧ (∀ x ∈ G ++ [g], x ≠ []) ∧ ∀ x ∈ G ++ [g], ∀ e ∈ x, zq e := by
    intro G g a1 a2 a3 a4
    refine ⟨by omega, fun x hx => ?_, fun x hx => ?_⟩
    · rcases List.mem_append.1 hx with hx | hx
      · exact hne x (a2 x hx)
      · rw [List.mem_singleton.1 hx]; exact a4
    · rcases List.mem_append.1 hx with hx | hx
      · exact h6' x (a2 x hx)
      · rw [List.mem_singleton.1 hx]; exact a3
  unfold bC.jf
  rw [if_neg hp]
  cases on with
  | false =>
    rw [if_neg (by decide)]
    exact key s.here s.put (by rw [GH]; omega) (fun x hx => hx) h4 hp
  | true =>
    rw [if_pos rfl]
    by_cases h0 : s.here = []
    · rw [h0]
      exact key [] s.put (by rw [GH, Ze]; omega) (fun x hx => by cases hx) h4 hp
    · rw [List.getLast?_eq_some_getLast h0]
      have hd := Gz h0
      have h2 : s.here.getLastD [] = s.here.getLast h0 := by rw [List.getLastD_eq_getLast?, List.getLast?_eq_some_getLast h0]; rfl
      rw [h2] at hd
      refine key s.here.dropLast (s.here.getLast h0 ++ s.put) ?_ (fun x hx => List.dropLast_subset _ hx) (fun e he => ?_) (fun he => hp (List.append_eq_nil_iff.1 he).2)
      · rw [GH, List.length_append, hs]
        unfold gG
        simp only [List.length_nil, Nat.add_zero]
        omega
      · rcases List.mem_append.1 he with he | he
        · exact h6' _ (List.getLast_mem h0) e he
        · exact h4 e he
theorem XJ (h : lI s) (hx : GZ s.c) (on : Bool) : lI (s.fM on) := by
  by_cases hp : s.put = []
  · rw [BM hp]; exact h
  · obtain ⟨f1, f2, f3⟩ := G9 h hx hp on
    rw [nJ hp]
    obtain ⟨h1, h2, h3, h4, h5, h6⟩ := h
    refine ⟨h1, h2, h3, by simp, ?_, fun k g hg => ?_⟩
    · show gG (vS s.c.un s.c.place (s.jf on) s.c.place) [] ≤ 16384
      rw [iE]; exact f1
    · have hg' : g ∈ vS s.c.un s.c.place (s.jf on) k := hg
      by_cases hk : k = s.c.place
      · subst hk; rw [iE] at hg'; exact f3 g hg'
      · rw [tC _ _ hk] at hg'; exact h6 k g hg'
theorem XK (h : lI s) (hx : RX s) (on : Bool) : RX (s.fM on) := by
  by_cases hp : s.put = []
  · rw [BM hp]; exact hx
  · obtain ⟨f1, f2, f3⟩ := G9 h hx.1 hp on
    rw [nJ hp]
    exact ⟨Oj hx.1 f1 f2, hx.2.1, hx.2.2⟩
theorem iH.sub (h : iH s es A yf yt) {G : List (List jl)} {A' : List LE} (h1 : gG G s.put ≤ gG s.here s.put) (h2 : ∀ g ∈ G, g ∈ s.here) (hA : _root_.Go.Proofs.YtpdeedplgmbopaaGreatDoor.FY A' = vS s.c.un s.c.place G) (hP : xR s.hl A') : iH (s.mJ G) es A' yf yt := by
  have ht := (h.rx.1.1 s.c.place).1
  have he : gG s.here s.put = gG s.here [] + s.put.length := oU _ _
  have hg : gG G s.put = gG G [] + s.put.length := oU _ _
  have hh : gG s.here [] ≤ 16384 := ht
  exact ⟨adf h.ok h1 h2, ⟨Oj h.rx.1 (by omega) (fun g hg => (h.rx.1.1 s.c.place).2 g (h2 g hg)), h.rx.2.1, h.rx.2.2⟩, h.says, hA, hP, h.MI⟩
theorem XL (h : GZ s.c) : s.here.length ≤ 16384 := by
  have h1 := (h.1 s.c.place).1
  have h2 := (h.1 s.c.place).2
  have key : ∀ G : List (List jl), (∀ g ∈ G, g ≠ []) → G.length ≤ (G.map List.length).sum := by
    intro G hG
    induction G with
    | nil => simp
    | cons g r ih =>
      have := ih (fun x hx => hG x (List.mem_cons_of_mem _ hx))
      have h3 : 0 < g.length := List.length_pos_iff.2 (hG g (List.mem_cons_self ..))
      simp only [List.length_cons, List.map_cons, List.sum_cons]
      omega
  have h4 := key (s.c.un s.c.place) h2
  unfold gG at h1
  simp only [List.length_nil, Nat.add_zero] at h1
  exact Nat.le_trans h4 h1
theorem U4 {hl : List qN} {A : List LE} {k : Int} {u : Value} {gs : List (Value × List eF)} (h : xR hl A) (hk : 0 ≤ k ∧ k ≤ hl.length) : xR hl (Bg A k u gs) := abu h hk
end
end Go.Proofs.YtpdeedplgmbopaaGreatDoor
end
section
namespace Go.Proofs.YtpdeedplgmbopaaGreatDoor
open Go.RowKit
open _root_.Go.Proofs.Tryz
theorem PU {A : List LE} {i : Nat} (h : i < A.length) : (A.map (·.1)).getD i 0 = (A.getD i default).1 := by simp [List.getD_eq_getElem?_getD, h]
theorem V9 {A : List LE} {i : Nat} (h : i < A.length) : (A.map (·.2.1)).getD i undef = (A.getD i default).2.1 := by simp [List.getD_eq_getElem?_getD, h]
theorem Ol {A : List LE} {p : LE → Bool} {i : Nat} (h : i < A.length) : (A.take (i + 1)).filter p = (A.take i).filter p ++ (if p (A.getD i default) then [A.getD i default] else []) := by
  rw [List.take_succ_eq_append_getElem h, List.filter_append, List.getD_eq_getElem?_getD, List.getElem?_eq_getElem h]
  simp only [Option.getD_some, List.filter_cons, List.filter_nil]
section
variable {w0 w : World} {F : HP} {y : Nat} {k : Int} {pv gv u : Value} {A : List LE} {gs : List (Value × List eF)}
theorem U5 {x0 x1 x2 x3 x4 x5 x6 x9 x10 x11 x12 xY x14 x15 x16 x17 x18 x19 x20 x21 yT x23 x24 x25 zf x27 x28 x29 x30 x31 x32 zO x34 Qi Qj Qk x38 x39 x40 x41 : Value} (H : V w0 w (dW y (.cells (x0 :: x1 :: x2 :: x3 :: x4 :: x5 :: x6 :: pv :: gv :: x9 :: x10 :: x11 :: x12 :: xY :: x14 :: x15 :: x16 :: x17 :: x18 :: x19 :: x20 :: x21 :: yT :: x23 :: x24 :: x25 :: zf :: x27 :: x28 :: x29 :: x30 :: x31 :: x32 :: zO :: x34 :: Qi :: Qj :: Qk :: x38 :: x39 :: x40 :: x41 :: []).toArray 174 (0, 0)) • oI .i64 pv (A.map (·.1)) • xM 1 gv A.length (A.map (·.2.1)) • sU A • F)) : iI prog 155 #[.pointer (some ⟨y, 7, none⟩), .int .i64 k] w fun v' w' => ∃ gs, DY gs = FY A k ∧
  V w0 w' (xM 1 v' gs.length (gs.map (·.1)) • pJ gs • dW y (.cells (x0 :: x1 :: x2 :: x3 :: x4 :: x5 :: x6 :: pv :: gv :: x9 :: x10 :: x11 :: x12 :: xY :: x14 :: x15 :: x16 :: x17 :: x18 :: x19 :: x20 :: x21 :: yT :: x23 :: x24 :: x25 :: zf :: x27 :: x28 :: x29 :: x30 :: x31 :: x32 :: zO :: x34 :: Qi :: Qj :: Qk :: x38 :: x39 :: x40 :: x41 :: []).toArray 174 (0, 0)) • oI .i64 pv (A.map (·.1)) • xM 1 gv A.length (A.map (·.2.1)) • sU A • F) := by
 have hpl : (A.map (·.1)).length = A.length := List.length_map _
 have hcap : (A.length : Int) ≤ 9223372036854775807 := by obtain ⟨_, a, c, _, h2, h3, _⟩ := (H.f3).qM; omega
 refine oN func155 ntmps155 ?_
 refine jR O (aO (jR O (aY ?_)))
 refine gV [(0, _), (1, _)] (fun (i : Nat) => [(5, .int .i64 (i : Int))]) (fun (i : Nat) W => (i ≤ A.length ∧ ∀ j, j < i → (A.getD j default).1 ≠ k) ∧ V w0 W (dW y (.cells (x0 :: x1 :: x2 :: x3 :: x4 :: x5 :: x6 :: pv :: gv :: x9 :: x10 :: x11 :: x12 :: xY :: x14 :: x15 :: x16 :: x17 :: x18 :: x19 :: x20 :: x21 :: yT :: x23 :: x24 :: x25 :: zf :: x27 :: x28 :: x29 :: x30 :: x31 :: x32 :: zO :: x34 :: Qi :: Qj :: Qk :: x38 :: x39 :: x40 :: x41 :: []).toArray 174 (0, 0)) • oI .i64 pv (A.map (·.1)) • xM 1 gv A.length (A.map (·.2.1)) • sU A • F)) (fun (i : Nat) => A.length - i) (0) ug mG ⟨⟨by omega, fun j hj => by omega⟩, H.f4.f4.f4.f4⟩ ?_
 rintro i w1 ⟨⟨hi, hne⟩, HL⟩
 dsimp only [List.cons_append, List.nil_append]
 refine aO (bT O (nK O O (bJ 0 kL O sizeOf167 O (fV iP O (HL).get.2 O (Z (jy ((HL.f2).kN) iP O) (Z (gB O O) (jL O (fun h1 => ?_) (fun h1 => ?_))))))))
 ·(try simp only [aA] at h1)
  refine gQ (aO (aY (aO ?_)))
  have hil : i < A.length := by omega
  refine aC (nK O O (bJ 0 kL O sizeOf167 O (fV iP O (HL).get.2 O (bP O ?_))))
  obtain ⟨bpv, opv, cpv, epv⟩ := gJ.rG ((HL.f2).kN) (by omega)
  cases epv
  refine Z (dP iP ay O O (by omega)) ?_
  refine Z (fG (dA aH O) O (by first | exact gJ.mZ ((HL.f2).kN) (by omega) | exact gJ.yA ((HL.f2).kN) (by omega) | exact gJ.xX ((HL.f2).kN) (by omega))) ?_
  rw [PU hil]
  refine bP O (Z (dX O O) (jL O (fun h2 => ?_) (fun h2 => ?_)))
  ·(try simp only [aA] at h2)
   have hek : (A.getD i default).1 = k := h2
   refine bT O (dL O (bJ 1 kL O sizeOf168 O (fV mD O (HL).get.2 O (bP O ?_))))
   obtain ⟨bgv, ogv, cgv, egv⟩ := Rd.rG ((HL.f3).qM) (by omega)
   cases egv
   refine Z (dP mD fZ O O (by omega)) ?_
   refine Z (fG (dA bI O) O (by first | exact Rd.mZ ((HL.f3).qM) (by omega) | exact Rd.yA ((HL.f3).qM) (by omega) | exact Rd.xX ((HL.f3).qM) (by omega))) ?_
   rw [V9 hil]
   have hat := adj hil hne hek
   obtain ⟨xp, xv, xgs, hx⟩ : ∃ xp xv xgs, A.getD i default = (xp, xv, xgs) := ⟨_, _, _, rfl⟩
   rw [hx] at hat ⊢
   dsimp only at hat ⊢
   have Ho2 := HL.f4
   have Hc3 := Ho2.V8 hil hx
   refine fC O (aT (aB (aB (aT (aB (dK results155 O ?_))))))
   exact ⟨xgs, hat.symm, Hc3.f3.f6.f6.f6.f6.f6⟩
  ·(try simp only [aA] at h2)
   have hni : (A.getD i default).1 ≠ k := h2
   refine dn (aK (aW (aC (bP O (Z (fO O O (by omega)) (iJ O (bY ?_)))))))
   refine dU (i + 1) ?_ ?_ ?_ ?_
   ·exact mG
   ·exact ug
   ·(try dsimp only)
    first | done | exact ⟨⟨by omega, fun j hj => (show j < i ∨ j = i from by omega).elim (hne j) (fun c => c ▸ hni)⟩, HL.f4.f4.f4.f4⟩
   ·(try dsimp only); omega
 ·(try simp only [aA] at h1)
  refine dO (aN (aN (bn (aW (aO ?_)))))
  obtain rfl : i = A.length := by omega
  refine aC (fC O (dK results155 O ?_))
  exact ⟨[], by rw [ZX hne]; rfl, ((HL.f4.f4.f4.f4).abv none).V7⟩
theorem Sv {x0 x1 x2 x3 x4 x5 x6 x9 x10 x11 x12 xY x14 x15 x16 x17 x18 x19 x20 x21 yT x23 x24 x25 zf x27 x28 x29 x30 x31 x32 zO x34 Qi Qj Qk x38 x39 x40 x41 : Value} (H : V w0 w (dW y (.cells (x0 :: x1 :: x2 :: x3 :: x4 :: x5 :: x6 :: pv :: gv :: x9 :: x10 :: x11 :: x12 :: xY :: x14 :: x15 :: x16 :: x17 :: x18 :: x19 :: x20 :: x21 :: yT :: x23 :: x24 :: x25 :: zf :: x27 :: x28 :: x29 :: x30 :: x31 :: x32 :: zO :: x34 :: Qi :: Qj :: Qk :: x38 :: x39 :: x40 :: x41 :: []).toArray 174 (0, 0)) • oI .i64 pv (A.map (·.1)) • xM 1 gv A.length (A.map (·.2.1)) • sU A • xM 1 u gs.length (gs.map (·.1)) • pJ gs • F)) (hA : A.length ≤ 4097) : iI prog 156 #[.pointer (some ⟨y, 7, none⟩), .int .i64 k, u] w fun _ w' => ∃ pv' gv',
  V w0 w' (dW y (.cells (x0 :: x1 :: x2 :: x3 :: x4 :: x5 :: x6 :: pv' :: gv' :: x9 :: x10 :: x11 :: x12 :: xY :: x14 :: x15 :: x16 :: x17 :: x18 :: x19 :: x20 :: x21 :: yT :: x23 :: x24 :: x25 :: zf :: x27 :: x28 :: x29 :: x30 :: x31 :: x32 :: zO :: x34 :: Qi :: Qj :: Qk :: x38 :: x39 :: x40 :: x41 :: []).toArray 174 (0, 0)) • oI .i64 pv' ((Bg A k u gs).map (·.1)) • xM 1 gv' (Bg A k u gs).length ((Bg A k u gs).map (·.2.1)) • sU (Bg A k u gs) • F) := by
 have hpl : (A.map (·.1)).length = A.length := List.length_map _
 have hfl : ∀ i, ((A.take i).filter fun x => x.1 != k).length ≤ A.length := fun i => Nat.le_trans (List.length_filter_le _ _) (by rw [List.length_take]; omega)
 have ae1 : ∀ i, (((A.take i).filter fun x => x.1 != k).map (·.1)).length = ((A.take i).filter fun x => x.1 != k).length := fun i => List.length_map _
 refine AB func156 ntmps156 ?_
 refine jR O (jR O (aO (jR O (aY ?_))))
 refine gV [(0, _), (1, _), (2, _)] (fun (⟨i, u1, u2⟩ : Nat × Value × Value) => [(6, u1), (7, u2), (8, .int .i64 (i : Int))]) (fun (⟨i, u1, u2⟩ : Nat × Value × Value) W => i ≤ A.length ∧ V w0 W (jW 3 .i64 u1 (((A.take i).filter fun x => x.1 != k).map (·.1)) • Row 226 1 u2 ((A.take i).filter fun x => x.1 != k).length (((A.take i).filter fun x => x.1 != k).map (·.2.1)) • dW y (.cells (x0 :: x1 :: x2 :: x3 :: x4 :: x5 :: x6 :: pv :: gv :: x9 :: x10 :: x11 :: x12 :: xY :: x14 :: x15 :: x16 :: x17 :: x18 :: x19 :: x20 :: x21 :: yT :: x23 :: x24 :: x25 :: zf :: x27 :: x28 :: x29 :: x30 :: x31 :: x32 :: zO :: x34 :: Qi :: Qj :: Qk :: x38 :: x39 :: x40 :: x41 :: []).toArray 174 (0, 0)) • oI .i64 pv (A.map (·.1)) • xM 1 gv A.length (A.map (·.2.1)) • sU A • xM 1 u gs.length (gs.map (·.1)) • pJ gs • F)) (fun (⟨i, u1, u2⟩ : Nat × Value × Value) => A.length - i) ((0, .slice none 0 0, .slice none 0 0)) vZ vZ ⟨by omega, ((H.f6.f6.f6.f6.f6.f6).jw (e := 226) (sz := 1) none).jw none⟩ ?_
 rintro ⟨i, u1, u2⟩ w1 ⟨hi, HL⟩
 dsimp only [List.cons_append, List.nil_append]
 refine aO (bT O (nK O O (bJ 0 kL O sizeOf167 O (fV iP O (HL.f3).get.2 O (Z (jy ((HL.f4).kN) iP O) (Z (gB O O) (jL O (fun h1 => ?_) (fun h1 => ?_))))))))
 ·(try simp only [aA] at h1)
  refine gQ (aO (aY (aO ?_)))
  have hil : i < A.length := by omega
  have hfi := hfl i
  have ae2 := ae1 i
  obtain ⟨xp, xv, xgs, hx⟩ : ∃ xp xv xgs, A.getD i default = (xp, xv, xgs) := ⟨_, _, _, rfl⟩
  refine aC (nK O O (bJ 0 kL O sizeOf167 O (fV iP O (HL.f3).get.2 O (bP O ?_))))
  obtain ⟨bpv, opv, cpv, epv⟩ := gJ.rG ((HL.f4).kN) (by omega)
  cases epv
  refine Z (dP iP ay O O (by omega)) ?_
  refine Z (fG (dA aH O) O (by first | exact gJ.mZ ((HL.f4).kN) (by omega) | exact gJ.yA ((HL.f4).kN) (by omega) | exact gJ.xX ((HL.f4).kN) (by omega))) ?_
  rw [PU hil, hx]
  dsimp only
  refine bP O (Z (iM O O) (jL O (fun h2 => ?_) (fun h2 => ?_)))
  ·(try simp only [aA] at h2)
   have hne : ¬ xp = k := h2
   refine bT O (nK O O (bJ 0 kL O sizeOf167 O (fV iP O (HL.f3).get.2 O (bP O (Z (dP iP ay O O (by omega)) ?_)))))
   refine Z (fG (dA aH O) O (by first | exact gJ.mZ ((HL.f4).kN) (by omega) | exact gJ.yA ((HL.f4).kN) (by omega) | exact gJ.xX ((HL.f4).kN) (by omega))) ?_
   rw [PU hil, hx]
   dsimp only
   refine jV (qo (k := .i64) (l := [_]) HL iP ay zeroValue3 O O O (by decide)) ?_
   rintro l2 w2 H2
   refine jV (nG H2.f2 ((H2).aQ) iP ae3 O O (by first | omega | (simp only [List.length_append, List.length_nil, List.length_cons]; omega) | (simp; omega)) (by first | omega | (simp only [List.length_append, List.length_nil, List.length_cons]; omega) | (simp; omega))) ?_
   rintro l3 w3 H3
   try simp only [List.nil_append] at H3
   refine fP O (aC (jO O O (dL O (bJ 1 kL O sizeOf168 O (fV mD O (H3.f4).get.2 O (bP O ?_))))))
   obtain ⟨bgv, ogv, cgv, egv⟩ := Rd.rG ((H3.f6).qM) (by omega)
   cases egv
   refine Z (dP mD fZ O O (by omega)) ?_
   refine Z (fG (dA bI O) O (by first | exact Rd.mZ ((H3.f6).qM) (by omega) | exact Rd.yA ((H3.f6).qM) (by omega) | exact Rd.xX ((H3.f6).qM) (by omega))) ?_
   rw [V9 hil, hx]
   dsimp only
   have QB := H3.f7
   have P7 := QB.V8 hil hx
   refine jV (kZ (vs := [_]) P7 mD fZ zeroValue226 O O O (by decide) (aX (by first | rfl | exact Rd.one ((P7).qM)) bQ)) ?_
   rintro l6 w6 H6
   refine jV (iw H6.f7 mD aac O O O ((H6).aQ) (aX (by first | rfl | exact Rd.one ((H6.f2).qM)) bQ) (by omega) (by omega)) ?_
   rintro l7 w7 H7
   have Hd8 := H7.f2.right
   refine iJ O (bY (aK (aW (aC (bP O (Z (fO O O (by omega)) (iJ O (bY ?_))))))))
   refine dU ((i + 1, l3, l7)) ?_ ?_ ?_ ?_
   ·exact vZ
   ·exact vZ
   ·(try dsimp only)
    first | done | exact ⟨by omega, by rw [Ol hil, hx]; dsimp only; first | (rw [if_pos (by simpa using hne)]; simp only [List.map_append, List.length_append]; exact Hd8.f2.right.f2.right.f4.right.f8.f8.f4.f8.f8.f8.f7.f8) | (rw [if_neg (by simpa using heq), List.append_nil]; exact Hd8.f2.right.f2.right.f4.right.f8.f8.f4.f8.f8.f8.f7.f8)⟩
   ·(try dsimp only); omega
  ·(try simp only [aA] at h2)
   have heq : xp = k := by have h9 := h2; omega
   refine dn (aK (aW (aC (bP O (Z (fO O O (by omega)) (iJ O (bY ?_)))))))
   refine dU ((i + 1, u1, u2)) ?_ ?_ ?_ ?_
   ·exact vZ
   ·exact vZ
   ·(try dsimp only)
    first | done | exact ⟨by omega, by rw [Ol hil, hx]; dsimp only; first | (rw [if_pos (by simpa using hne)]; simp only [List.map_append, List.length_append]; exact HL.f8.f8.f8.f8.f8.f8.f8.f8) | (rw [if_neg (by simpa using heq), List.append_nil]; exact HL.f8.f8.f8.f8.f8.f8.f8.f8)⟩
   ·(try dsimp only); omega
 ·(try simp only [aA] at h1)
  refine dO (aN (aN (bn (aW ?_))))
  obtain rfl : i = A.length := by omega
  have HX := HL
  rw [List.take_length] at HX
  have hfi := hfl A.length
  have ae2 := ae1 A.length
  rw [List.take_length] at hfi ae2
  refine aC (jO O O (jO O O (jV (qo (k := .i64) (l := [_]) HX iP ay zeroValue3 O O O (by decide)) ?_)))
  rintro l9 w9 H9
  refine jV (nG H9.f2 ((H9).aQ) iP ae3 O O (by first | omega | (simp only [List.length_append, List.length_nil, List.length_cons]; omega) | (simp; omega)) (by first | omega | (simp only [List.length_append, List.length_nil, List.length_cons]; omega) | (simp; omega))) ?_
  rintro l10 w10 pW
  try simp only [List.nil_append] at pW
  refine jO O O (jV (kZ (vs := [_]) pW mD fZ zeroValue226 O O O (by decide) (aX (by first | rfl | exact Rd.one ((pW.f8).qM)) bQ)) ?_)
  rintro l11 FX sW
  refine jV (iw sW.f4 mD aac O O O ((sW).aQ) (aX (by first | rfl | exact Rd.one ((sW.f9).qM)) bQ) (by omega) (by omega)) ?_
  rintro l12 w12 wL
  have ae4 := wL.f2.right
  refine dL O (bJ 0 kL O sizeOf167 O (aI (fU 7 (l' := [_, _, _, _, _, _, _, _, _, _, _, _, _, _, _, _, _, _, _, _, _, _, _, _, _, _, _, _, _, _, _, _, _, _, _, _, _, _, _, _, _, _]) ae4.f4 sizeOf167 O O (by first | rfl | exact Rd.one ((ae4.f2).aQ)) O O) ?_))
  rintro _ P6 Az
  refine dL O (bJ 1 kL O sizeOf168 O (aI (fU 8 (l' := [_, _, _, _, _, _, _, _, _, _, _, _, _, _, _, _, _, _, _, _, _, _, _, _, _, _, _, _, _, _, _, _, _, _, _, _, _, _, _, _, _, _]) Az sizeOf168 O O (by first | rfl | exact Rd.one ((Az.f2).aQ)) O O) ?_))
  rintro _ Qu zI
  refine bY (lK (.inr O) results156 ?_)
  have hs1 : (Bg A k u gs).map (·.1) = (A.filter fun x => x.1 != k).map (·.1) ++ [k] := by unfold Bg; rw [List.map_append]; rfl
  have hs2 : (Bg A k u gs).map (·.2.1) = (A.filter fun x => x.1 != k).map (·.2.1) ++ [u] := by unfold Bg; rw [List.map_append]; rfl
  have hs3 : (Bg A k u gs).length = (A.filter fun x => x.1 != k).length + 1 := by unfold Bg; rw [List.length_append]; rfl
  have HQ := (zI.f4.right.f4.right.f4.right.f2.f3.f6.f6.f6).Z4 (p := k) |>.f2.lM.f3.IE.f4.f3.f2
  exact ⟨_, _, by rw [hs1, hs2, hs3]; exact HQ⟩
end
section
variable {w0 w : World} {F : HP} {y : Nat} {s : bC} {x : Int} {b : Bool}
theorem PV (H : V w0 w (qU y s • F)) : iI prog 63 #[.pointer (some ⟨y, 0, none⟩), .int .i64 x] w fun v w' => v = .int .i64 (s.tJ x) ∧ V w0 w' (qU y (s.yh x) • F) := by
 refine oN func63 ntmps63 ?_
 refine jR O (aO (aO ?_))
 obtain ⟨h_y, MQ, MR, MS, MV, XM, XO, A_y, XP, XQ, Sz, SA, SB, MW, MX, MZ, Na, Nb, Nc, Nh, Nj, Nk, Nl, Np, Nq, rW, FT, xU⟩ := (H).Sr
 refine aC (nK O O (bJ 32 aS O aP O (fV bZ O (xU).get.2 O (Z (lC O) (jJ O (fun h1 => ?_) (fun h1 => ?_))))))
 ·(try simp only [aA] at h1)
  refine bF (bF (jh O O (bP O (bF (bF (jh O O (iL (C9 (jP O (aB (dK results63 O ?_)))))))))))
  have hd : s.tJ x = 1 := by
   unfold bC.tJ
   by_cases hin : s.inn = true
   ·rw [if_pos hin, if_pos (by first | omega | (exfalso; simp_all))]
   ·rw [if_neg hin]
  have WU := xU.f12.f12.f12.f12.f12.f12.f12.f12.f12.f12.f12.f12
  have Vt := V.vX (s := s) rW WU
  exact ⟨by rw [hd], by unfold bC.yh; rw [if_neg (by rw [hd]; decide)]; exact Vt⟩
 ·(try simp only [aA] at h1)
  refine bg (bP O (bg (Z (gB O O) (ig O O (jJ O (fun h2 => ?_) (fun h2 => ?_))))))
  ·(try simp only [aA] at h2)
   refine bF (bF (jh O O (iL (C9 (jP O (aB (dK results63 O ?_)))))))
   have hd : s.tJ x = 1 := by
    unfold bC.tJ
    by_cases hin : s.inn = true
    ·rw [if_pos hin, if_pos (by first | omega | (exfalso; simp_all))]
    ·rw [if_neg hin]
   have Ho6 := xU.f12.f12.f12.f12.f12.f12.f12.f12.f12.f12.f12.f12
   have Hc7 := V.vX (s := s) rW Ho6
   exact ⟨by rw [hd], by unfold bC.yh; rw [if_neg (by rw [hd]; decide)]; exact Hc7⟩
  ·(try simp only [aA] at h2)
   refine bg (bP O (bg (Z (dY O O) (ig O O (jL O (fun h3 => ?_) (fun h3 => ?_))))))
   ·(try simp only [aA] at h3)
    refine jP O (aB (dK results63 O ?_))
    have hd : s.tJ x = 1 := by
     unfold bC.tJ
     by_cases hin : s.inn = true
     ·rw [if_pos hin, if_pos (by first | omega | (exfalso; simp_all))]
     ·rw [if_neg hin]
    have Ho9 := xU.f12.f12.f12.f12.f12.f12.f12.f12.f12.f12.f12.f12
    have acP := V.vX (s := s) rW Ho9
    exact ⟨by rw [hd], by unfold bC.yh; rw [if_neg (by rw [hd]; decide)]; exact acP⟩
   ·(try simp only [aA] at h3)
    refine gQ (aO ?_)
    have hin : s.inn = true := by first | assumption | (simp_all; done)
    have hd : s.tJ x = 0 := by unfold bC.tJ; rw [if_pos hin, if_neg (by omega)]
    refine aC (jO O O (dL O (bJ 1 aS O fH O (bJ 8 dI O ay O (aI (mP 9 xU ay) ?_)))))
    rintro _ FX sW
    refine iL (jP O (dK results63 O ?_))
    rw [hd]
    refine ⟨O, ?_⟩
    unfold bC.yh
    rw [if_pos hd]
    exact V.vX (s := { s with c := { s.c with mode := x } }) ⟨rW.ok, rW.rx, rW.says, rW.FY, rW.placed, rW.MI⟩ sW.f12.f12.f12.f12.f12.f12.f12.f12.f12.f12.f12.f12
end
end Go.Proofs.YtpdeedplgmbopaaGreatDoor
end
section
namespace Go.Proofs.YtpdeedplgmbopaaGreatDoor
open Go.RowKit
section
variable {w0 w : World} {F : HP} {e h : Nat} {hl : List qN} {base most : Int}
end
section
variable {w0 w : World} {F : HP} {l : List qN} {v : Value}
end
end Go.Proofs.YtpdeedplgmbopaaGreatDoor
end
