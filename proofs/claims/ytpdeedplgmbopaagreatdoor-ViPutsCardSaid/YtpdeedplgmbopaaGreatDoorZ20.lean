import Derived.Test.YtpdeedplgmbopaaGreatDoorZ4
import Derived.Test.YtpdeedplgmbopaaGreatDoorZ13
import Derived.Test.YtpdeedplgmbopaaGreatDoorZ9
import Derived.Test.YtpdeedplgmbopaaGreatDoorZ8
import Derived.Test.YtpdeedplgmbopaaGreatDoorZ6
import Derived.Test.YtpdeedplgmbopaaGreatDoorZ7
import Derived.Test.YtpdeedplgmbopaaGreatDoorZ5
import Derived.Test.YtpdeedplgmbopaaGreatDoorZ11
import Derived.Test.YtpdeedplgmbopaaGreatDoorZ16
set_option linter.unusedSimpArgs false
set_option linter.unusedVariables false
/- Texts of mine, joined, their names in short: RLs Ref7 Ref7b BufAny Ref7c RefAny RefRing REd REdX RLs2 REdA REd0 EBoth0. -/
section
namespace Go.Proofs.YtpdeedplgmbopaaGreatDoor
open Go.RowKit
def xY (sz : Nat) (v : Value) (n : Nat) (xs : List Value) : HP := know (fun I => EH I sz v n xs) fun _ _ hl h => h.mono hl
abbrev LE := Int × Value × List (Value × List fA)
def Ea (gs : List (Value × List fA)) : List (List jm) := gs.map fun g => g.2.map fA.says
def Jr (A : List LE) (k : Int) : List (List jm) := ((A.find? fun x => x.1 == k).map fun x => Ea x.2.2).getD []
def BG (A : List LE) (k : Int) (u : Value) (gs : List (Value × List fA)) : List LE := A.filter (fun x => x.1 != k) ++ [(k, u, gs)]
def GlI (I : Hp) (v : Value) (gs : List (Value × List fA)) : Prop := EH I 1 v gs.length (gs.map (·.1)) ∧ Fz I gs
theorem GlI.mono {I I' : Hp} {v : Value} {gs : List (Value × List fA)} (hl : Hp.le I I') (h : GlI I v gs) : GlI I' v gs := ⟨h.1.mono hl, h.2.mono hl⟩
def glK (v : Value) (gs : List (Value × List fA)) : HP := xY 1 v gs.length (gs.map (·.1)) • pY gs
def abL (I : Hp) (A : List LE) : Prop := ∀ k, k < A.length → GlI I (A.getD k default).2.1 (A.getD k default).2.2
def uh (A : List LE) : HP := know (fun I => abL I A) fun _ _ hl h k hk => (h k hk).mono hl
def lsK (pv gv : Value) (A : List LE) : HP := oP .i64 pv (A.map (·.1)) • xY 1 gv A.length (A.map (·.2.1)) • uh A
theorem abM (A : List LE) (k : Int) (u : Value) (gs : List (Value × List fA)) : Jr (BG A k u gs) = xI (Jr A) k (Ea gs) := by
  funext j
  unfold Jr BG xI
  rw [List.find?_append]
  by_cases hj : j = k
  · subst hj
    rw [if_pos rfl, List.find?_eq_none.2 (by intro x hx; simp at hx; simpa using hx.2)]
    simp
  · rw [if_neg hj, List.find?_filter]
    have h1 : (fun a : LE => decide (a.1 != k ∧ (a.1 == j) = true)) = fun a : LE => a.1 == j := by
      funext a
      by_cases ha : a.1 = j
      · simp [ha, hj]
      · simp [ha]
    have h2 : (fun a : LE => (a.1 != k) && (a.1 == j)) = fun a : LE => a.1 == j := by
      funext a
      by_cases ha : a.1 = j
      · simp [ha, hj]
      · simp [ha]
    have h3 : ([(k, u, gs)] : List LE).find? (fun x => x.1 == j) = none := by
      rw [List.find?_eq_none]; intro x hx; rw [List.mem_singleton.1 hx]; simpa using Ne.symm hj
    first
      | rw [h3, Option.or_none, h2]
      | rw [h3, Option.or_none, h1]
      | (simp only [h3, Option.or_none, h2, h1])
theorem adF {A : List LE} {k : Int} {i : Nat} (hi : i < A.length) (hn : ∀ j, j < i → (A.getD j default).1 ≠ k) (he : (A.getD i default).1 = k) : Jr A k = Ea (A.getD i default).2.2 := by
  induction A generalizing i with
  | nil => simp at hi
  | cons x r ih =>
    unfold Jr
    rw [List.find?_cons]
    cases i with
    | zero =>
      have : x.1 = k := he
      rw [show (x.1 == k) = true from by simpa using this]; rfl
    | succ m =>
      have h0 : x.1 ≠ k := hn 0 (by omega)
      rw [show (x.1 == k) = false from by simpa using h0]
      exact ih (i := m) (by simpa using hi) (fun j hj => hn (j + 1) (by omega)) he
theorem aaj {A : List LE} {k : Int} (hn : ∀ j, j < A.length → (A.getD j default).1 ≠ k) : Jr A k = [] := by
  unfold Jr
  rw [List.find?_eq_none.2]
  · rfl
  · intro x hx
    obtain ⟨j, hj, rfl⟩ := List.getElem_of_mem hx
    have := hn j hj
    rw [List.getD_eq_getElem?_getD, List.getElem?_eq_getElem hj] at this
    simpa using this
theorem Ov : ∀ (n : Nat) (l : List Int), l.Nodup → (∀ x ∈ l, 0 ≤ x ∧ x < n) → l.length ≤ n
  | 0, l, _, h => by
    cases l with
    | nil => simp
    | cons x r => have := h x (List.mem_cons_self ..); omega
  | n + 1, l, hn, h => by
    have h1 : (l.erase (n : Int)).length ≤ n := Ov n (l.erase n) (hn.erase _) (fun x hx => by
      have hm := (List.Nodup.mem_erase_iff hn).1 hx
      have := h x hm.2
      have := hm.1
      omega)
    have h2 : l.length ≤ (l.erase (n : Int)).length + 1 := by rw [List.length_erase]; split <;> omega
    omega
theorem SE (A : List LE) (k : Int) (u : Value) (gs : List (Value × List fA)) : (BG A k u gs).map (·.1) = (A.map (·.1)).filter (· != k) ++ [k] := by
  unfold BG
  rw [List.map_append, List.filter_map]; rfl
theorem abN {A : List LE} {n : Int} {k : Int} {u : Value} {gs : List (Value × List fA)} (h : (A.map (·.1)).Nodup ∧ ∀ x ∈ A.map (·.1), 0 ≤ x ∧ x ≤ n) (hk : 0 ≤ k ∧ k ≤ n) :
    ((BG A k u gs).map (·.1)).Nodup ∧ ∀ x ∈ (BG A k u gs).map (·.1), 0 ≤ x ∧ x ≤ n := by
  rw [SE]
  refine ⟨List.nodup_append.2 ⟨h.1.filter _, by simp, fun a ha b hb => ?_⟩, fun x hx => ?_⟩
  · rw [List.mem_singleton.1 hb]
    have := (List.mem_filter.1 ha).2
    simpa using this
  · rcases List.mem_append.1 hx with hx | hx
    · exact h.2 x (List.mem_filter.1 hx).1
    · rw [List.mem_singleton.1 hx]; exact hk
theorem U9 {A : List LE} {n : Int} (h : (A.map (·.1)).Nodup ∧ ∀ x ∈ A.map (·.1), 0 ≤ x ∧ x ≤ n) (hn : 0 ≤ n ∧ n ≤ 4096) : A.length ≤ 4097 := by
  have := Ov (n.toNat + 1) _ h.1 (fun x hx => by have := h.2 x hx; omega)
  rw [List.length_map] at this
  omega
section
variable {w0 w : World} {F : HP} {v u pv gv : Value} {n sz k : Nat} {xs : List Value} {es : List fA} {gs : List (Value × List fA)} {A : List LE} {x : LE}
theorem V.qP (H : V w0 w (xY sz v n xs • F)) : Rd w sz v n xs := let ⟨I, h, hI⟩ := H.uF; h.rd hI
theorem V.aak (H : V w0 w (xY sz v n xs • F)) : V w0 w (xY sz v n xs • xY sz v n xs • F) := H.vF
theorem V.Va (H : V w0 w F) (a : Option Addr) : V w0 w (xY sz (.slice a 0 0) 0 [] • F) := H.yJ fun I => ⟨by simp, a, 0, rfl, by omega, by decide, fun h => by omega⟩
theorem V.IB {t : TypeId} (H : V w0 w (Row t sz v n xs • F)) : V w0 w (xY sz v n xs • F) := by
  have hl := H.yI
  rcases H.vI with ⟨a, rfl, h1, h2, H1⟩ | ⟨g, o, c, cur, rfl, h2, h3, h4, h5, H1⟩
  · subst h1; exact H1.yJ fun I => ⟨hl, a, 0, rfl, by omega, by decide, fun h => by omega⟩
  · exact H1.freeze.F7 (qN (fun I hI => ⟨hl, _, c, rfl, h2, h3, fun _ => ⟨g, o, cur, _, (0, 0), rfl, hI, h5⟩⟩) F)
theorem V.Wp (H : V w0 w (glK v gs • F)) : V w0 w (xY 1 v gs.length (gs.map (·.1)) • pY gs • F) := H.flat
theorem V.abO (H : V w0 w F) (a : Option Addr) : V w0 w (glK (.slice a 0 0) [] • F) := V.deep (H.Kq.Va (sz := 1) a)
theorem V.Eb (H : V w0 w (FB v gs • F)) : V w0 w (glK v gs • F) := V.deep (H.aa9.IB)
theorem V.Wq {p : Int} (H : V w0 w (uh A • F)) (hk : k < A.length) (hx : A.getD k default = (p, v, gs)) : V w0 w (xY 1 v gs.length (gs.map (·.1)) • pY gs • uh A • F) := by
  have H2 : V w0 w (xY 1 (A.getD k default).2.1 (A.getD k default).2.2.length ((A.getD k default).2.2.map (·.1)) • uh A • uh A • F) := H.vF.vF.F7 (qN (fun I h => (h k hk).1) _)
  have H3 : V w0 w (pY (A.getD k default).2.2 • xY 1 (A.getD k default).2.1 (A.getD k default).2.2.length ((A.getD k default).2.2.map (·.1)) • uh A • F) := H2.f2.F7 (qN (fun I h => (h k hk).2) _)
  rw [hx] at H3
  exact H3.f2
theorem abL.set {I : Hp} {p : Int} (h : abL I A) (g : GlI I u gs) : abL I (BG A p u gs) := by
  have hm : ∀ x ∈ A, GlI I x.2.1 x.2.2 := fun x hx => by
    obtain ⟨j, hj, rfl⟩ := List.getElem_of_mem hx
    have := h j hj
    rwa [List.getD_eq_getElem?_getD, List.getElem?_eq_getElem hj] at this
  have hm2 : ∀ x ∈ BG A p u gs, GlI I x.2.1 x.2.2 := fun x hx => by
    rcases List.mem_append.1 hx with hx | hx
    · exact hm x (List.mem_filter.1 hx).1
    · rw [List.mem_singleton.1 hx]; exact g
  intro j hj
  rw [List.getD_eq_getElem?_getD, List.getElem?_eq_getElem hj]
  exact hm2 _ (List.getElem_mem hj)
theorem V.aal {p : Int} (H : V w0 w (uh A • xY 1 u gs.length (gs.map (·.1)) • pY gs • F)) : V w0 w (uh (BG A p u gs) • F) := by
  have H1 : V w0 w (know (fun I => GlI I u gs) (fun _ _ hl h => h.mono hl) • uh A • F) := (H.f3.f3 : V w0 w (xY 1 u gs.length (gs.map (·.1)) • pY gs • uh A • F)).F7 (rO (fun I h g => ⟨h, g⟩) _)
  exact H1.f2.F7 (rO (fun I h g => h.set g) _)
theorem V.SG (H : V w0 w F) : V w0 w (uh [] • F) := H.yJ fun I k hk => by simp at hk
theorem V.SH {k : IntKind} (H : V w0 w F) (a : Option Addr) : V w0 w (oP k (.slice a 0 0) [] • F) := H.yJ fun I => ⟨a, 0, rfl, by simp, by decide, fun h => by simp at h⟩
end
end Go.Proofs.YtpdeedplgmbopaaGreatDoor
end
section
namespace Go.Proofs.YtpdeedplgmbopaaGreatDoor
open Go.RowKit
open _root_.Go.Proofs.Tryz
def G9 (v : Value) (pt mk : Int) : Array Value := #[v, .int .i64 pt, .int .i64 mk]
def ql (p : Nat) (L : List Int) (pt mk : Int) : HP := wE fun (v : Value) => fact (L.length ≤ 1024 ∧ (0 ≤ pt ∧ pt ≤ L.length) ∧ (-1 ≤ mk ∧ mk ≤ L.length)) • dW p (.cells (G9 v pt mk) 222 (0, 0)) • ku 21 .i32 v L
section
variable {w0 w : World} {F : HP} {p : Nat} {L : List Int} {pt mk : Int} {v : Value} {l : List Int} {i j : Int}
theorem V.ref (H : V w0 w (ql p L pt mk • F)) : ∃ (a : Option Addr) (c : Nat), L.length ≤ 1024 ∧ (0 ≤ pt ∧ pt ≤ L.length) ∧ (-1 ≤ mk ∧ mk ≤ L.length) ∧ L.length ≤ c ∧ (c : Int) ≤ 9223372036854775807 ∧
    V w0 w (dW p (.cells (G9 (.slice a L.length c) pt mk) 222 (0, 0)) • ku 21 .i32 (.slice a L.length c) L • F) := by
  obtain ⟨v, H⟩ := H.nX
  obtain ⟨⟨h1, h2, h3⟩, H⟩ := H.flat.fact
  have H := H.flat
  obtain ⟨a, c, hv, hc1, hc2, _⟩ := (H.swap.aS).form
  subst hv
  exact ⟨a, c, h1, h2, h3, hc1, hc2, H⟩
theorem V.Vd (h1 : L.length ≤ 1024) (h2 : 0 ≤ pt ∧ pt ≤ L.length) (h3 : -1 ≤ mk ∧ mk ≤ L.length) (H : V w0 w (dW p (.cells (G9 v pt mk) 222 (0, 0)) • ku 21 .i32 v L • F)) : V w0 w (ql p L pt mk • F) :=
  V.jw v (V.deep (V.lK ⟨h1, h2, h3⟩ (V.deep H)))
theorem Qa (H : V w0 w F) (hr : jF w0 F .i32 v l) (hl : 1024 < l.length) : iE prog 112 #[v] w fun v' w' => v' = .tuple #[.pointer none, .int .i64 3] ∧ w = w' := by
  obtain ⟨a, c, rfl, _, _, _⟩ := (hr w H).open
  refine iZ func112 ntmps112 ?_
  refine iR (iK O (uZ O (bQ O (Z (jd aj O) (Z (dY O O) (iJ (wcA O (fun h1 => ?_))))))))
  (try simp only [aA] at h1)
  refine iR (iK O (fB O (aB (NR results112 O O ?_))))
  exact ⟨O, O⟩
theorem SI (H : V w0 w F) (hr : jF w0 F .i32 v l) (hl : l.length ≤ 1024) : iE prog 112 #[v] w fun v' w' => ∃ p, v' = .tuple #[.pointer (some ⟨p, 0, none⟩), .int .i64 0] ∧ V w0 w' (ql p l l.length (-1) • F) := by
  obtain ⟨a, c, rfl, hc1, hc2, _⟩ := (hr w H).open
  refine iZ func112 ntmps112 ?_
  refine iR (iK O (uZ O (bQ O (Z (jd aj O) (Z (dY O O) (iJ (TN O (fun h1 => ?_))))))))
  (try simp only [aA] at h1)
  refine gG (jQ O (bQ O (bT O (kD (nN (l := []) (H.jk none) (hr _ H) aj Du O O (by simp only [List.length_nil]; omega) (by simp only [List.length_nil]; omega)) ?_))))
  rintro u w1 H1
  rw [List.nil_append] at H1
  obtain ⟨au, cu, hu, _⟩ := (H1.aS).form
  subst hu
  refine fG O (bQ O (bT O (Z (jd aj O) (Z (mJ (pl := #[(0, 1), (1, 1), (2, 1)]) (G9 (.slice au l.length cu) l.length (-1)) underlying222 zeroValue222 (fun w => by kernel_rfl) O (by kernel_rfl)) (kD (Vs H1 O) ?_)))))
  rintro _ w2 ⟨b2, rfl, H2⟩
  refine iK O (fB O (NR results112 O O ?_))
  exact ⟨_, O, V.Vd hl (by omega) (by omega) H2⟩
end
end Go.Proofs.YtpdeedplgmbopaaGreatDoor
end
section
namespace Go.Proofs.YtpdeedplgmbopaaGreatDoor
open Go.RowKit
section
variable {w0 w : World} {F : HP} {p : Nat} {L : List Int} {pt mk x : Int} {v : Value} {l : List Int}
end
end Go.Proofs.YtpdeedplgmbopaaGreatDoor
end
section

end
section
namespace Go.Proofs.YtpdeedplgmbopaaGreatDoor
open Go.RowKit
section
variable {w0 w : World} {F : HP} {p : Nat} {L : List Int} {pt mk x : Int} {v : Value} {l : List Int}
end
section
variable {w0 w : World} {F : HP} {p : Nat} {L : List Int} {pt mk : Int} {v d s : Value} {l dl il : List Int} {i j a x : Int}
end
end Go.Proofs.YtpdeedplgmbopaaGreatDoor
end
section
namespace Go.Proofs.YtpdeedplgmbopaaGreatDoor
open Go.RowKit
open _root_.Go.Proofs.Tryz
section
variable {w0 w : World} {F : HP} {p place : Nat} {E ls : List (List Int)} {v x y : Value} {l m : List Int} {vs : List Value}
theorem aam (H : V w0 w F) (h1 : jF w0 F .i32 x l) (h2 : jF w0 F .i32 y m) (hb : l.length + m.length ≤ 35184372088832) :
    iE prog 181 #[x, y] w fun v w' => V w0 w' (ku 21 .i32 v (l ++ m) • F) := by
  refine oV func181 ntmps181 ?_
  refine jQ O (jQ O (bQ O (bT O (kD (nN (l := []) (H.jk none) (h1 _ (H)) aj aan O O (by first | omega | (simp only [List.length_append, List.length_nil, List.length_cons]; omega) | (simp; omega)) (by first | omega | (simp only [List.length_append, List.length_nil, List.length_cons]; omega) | (simp; omega))) ?_))))
  rintro l1 w1 H1
  try simp only [List.nil_append] at H1
  refine fG O (bQ O (bT O (kD (nN H1 (h2 _ (H1.right)) aj aan O O (by first | omega | (simp only [List.length_append, List.length_nil, List.length_cons]; omega) | (simp; omega)) (by first | omega | (simp only [List.length_append, List.length_nil, List.length_cons]; omega) | (simp; omega))) ?_)))
  rintro l2 w2 H2
  try simp only [List.nil_append] at H2
  refine fB O (dL results181 O ?_)
  simpa using H2
theorem XV (H : V w0 w F) (h1 : jF w0 F .i32 x l) (hb : l.length ≤ 35184372088832) :
    iE prog 181 #[x, .slice none 0 0] w fun v w' => V w0 w' (ku 21 .i32 v l • F) := by
  have := aam H h1 (fun W _ => gJ.nil W .i32 none 0 (by decide)) (by simpa using hb)
  simpa using this
def oq (p : Nat) (E : List (List Int)) (place : Nat) : HP := wE fun v => dW p (.cells #[v, .int .i64 place] 176 (0, 0)) • LL 22 .i32 v E
theorem V.afd (H : V w0 w (oq p E place • F)) : ∃ v, V w0 w (dW p (.cells #[v, .int .i64 place] 176 (0, 0)) • LL 22 .i32 v E • F) := let ⟨v, h⟩ := H.nX; ⟨v, h.flat⟩
theorem V.LJ (H : V w0 w (dW p (.cells #[v, .int .i64 place] 176 (0, 0)) • LL 22 .i32 v E • F)) : V w0 w (oq p E place • F) := V.jw v H.deep
theorem LK {α : Type _} {l : List α} {k : Nat} {d : α} (h : k < l.length) : l.take (k + 1) = l.take k ++ [l.getD k d] := by rw [List.take_succ_eq_append_getElem h, List.getD_eq_getElem?_getD, List.getElem?_eq_getElem h]; rfl
end
end Go.Proofs.YtpdeedplgmbopaaGreatDoor
end
section
namespace Go.Proofs.YtpdeedplgmbopaaGreatDoor
open Go.RowKit
def xW (hl : List sN) (tx : Int → Option ByteArray) : List ByteArray := (List.range (hl.length + 1)).map fun (k : Nat) => kL hl tx (k : Int)
theorem IC (hl : List sN) (tx : Int → Option ByteArray) : (xW hl tx).length = hl.length + 1 := by simp [xW]
theorem EC (hl : List sN) : (qc hl).length = hl.length + 1 := by simp [qc]
theorem aao {hl : List sN} {tx : Int → Option ByteArray} {k : Nat} (hk : k ≤ hl.length) : (xW hl tx).getD k .empty = kL hl tx k := by
  unfold xW
  rw [List.getD_eq_getElem?_getD, List.getElem?_map, List.getElem?_range (by omega)]; rfl
theorem aap {hl : List sN} {k : Nat} (hk : k ≤ hl.length) : (qc hl).getD k .empty = BO hl k := by
  unfold qc BO QU
  by_cases h : k < hl.length
  · rw [if_pos (by omega), List.getD_eq_getElem?_getD, List.getElem?_append_left (by simpa using h), List.getElem?_map, List.getElem?_eq_getElem h]
    simp [List.getD_eq_getElem?_getD, h]
  · obtain rfl : k = hl.length := by omega
    rw [if_neg (by omega), List.getD_eq_getElem?_getD, List.getElem?_append_right (by simp)]
    simp
theorem LM (hl : List sN) : xW hl (fun _ => none) = qc hl := by
  apply List.ext_getElem?
  intro k
  by_cases h : k ≤ hl.length
  · have h1 := aao (tx := fun _ => none) h
    have h2 := aap h
    rw [List.getD_eq_getElem?_getD, List.getElem?_eq_getElem (by rw [IC]; omega)] at h1
    rw [List.getD_eq_getElem?_getD, List.getElem?_eq_getElem (by rw [EC]; omega)] at h2
    rw [List.getElem?_eq_getElem (by rw [IC]; omega), List.getElem?_eq_getElem (by rw [EC]; omega)]
    simp only [Option.getD_some] at h1 h2
    rw [h1, h2]; rfl
  · rw [List.getElem?_eq_none (by rw [IC]; omega), List.getElem?_eq_none (by rw [EC]; omega)]
def He (c : oC) : Prop := (∀ k, gV (c.un k) [] ≤ 16384 ∧ ∀ g ∈ c.un k, g ≠ []) ∧ (c.E.length ≤ 60 ∧ (c.at_ < c.E.length ∨ c.at_ = 0) ∧ ∀ e ∈ c.E, e.length ≤ 1024)
def RX (s : bn) : Prop := He s.c ∧ (s.inn = true → He s.was ∧ s.c.last = s.was.last ∧ (s.kU = false → s.c.fr = s.was.fr ∧ s.c.to = s.was.to)) ∧ (s.inn = true → s.cls = 2 → s.kU = true)
def yu (hl : List sN) (A : List LE) : Prop := (A.map (·.1)).Nodup ∧ ∀ x ∈ A.map (·.1), 0 ≤ x ∧ x ≤ (hl.length : Int)
def IE (pb pk : Nat) (wv nv pv gv : Value) (hl : List sN) (c : oC) : List Value := [.pointer (some ⟨pb, 0, none⟩), .pointer (some ⟨pk, 0, none⟩), wv, nv, .int .i64 c.place, .string (kL hl c.tx c.place), pv, gv, .int .i64 c.mode, .bool c.over, .int .i64 c.res, .bool c.run]
structure ROP where
  pb : Nat
  pk : Nat
  wv : Value
  nv : Value
  pv : Value
  gv : Value
  A : List LE
def EK (inn : Bool) (hl : List sN) (c : oC) (u : List Value) : HP := if inn = true then wE fun (x : ROP) => fact (u = IE x.pb x.pk x.wv x.nv x.pv x.gv hl c ∧ Jr x.A = c.un ∧ yu hl x.A ∧ (u.all fun x => x.oneCell') = true) •
  ql x.pb c.L c.pt c.mark • oq x.pk c.E c.at_ • xY 1 x.wv (hl.length + 1) (strs (qc hl)) • Row 9 1 x.nv (hl.length + 1) (strs (xW hl c.tx)) • oP .i64 x.pv (x.A.map (·.1)) • xY 1 x.gv x.A.length (x.A.map (·.2.1)) • uh x.A else fact ((u.all fun x => x.oneCell') = true)
structure lg (s : bn) (es : List fA) (A : List LE) (yf yt : Int) : Prop where
  ok : mM s
  rx : RX s
  says : es.map fA.says = s.put
  Jr : Jr A = s.c.un
  placed : yu s.hl A
  Xt : s.inn = true → s.kU = true → yf = s.c.fr ∧ yt = s.c.to
structure RdP where
  h : Nat
  pb : Nat
  pk : Nat
  wv : Value
  nv : Value
  pv : Value
  gv : Value
  A : List LE
  nw : Value
  es : List fA
  yf : Int
  yt : Int
  ch : Bool
  u0 : Value
  u1 : Value
  u2 : Value
  u3 : Value
  u4 : Value
  u5 : Value
  u6 : Value
  u7 : Value
  u8 : Value
  u9 : Value
  ua : Value
  ub : Value
def qW (y : Nat) (s : bn) : HP := wE fun (x : RdP) => match x with
  | ⟨h, pb, pk, wv, nv, pv, gv, A, nw, es, yf, yt, ch, u0, u1, u2, u3, u4, u5, u6, u7, u8, u9, ua, ub⟩ => fact (lg s es A yf yt) • dW y (.cells (.pointer (some ⟨h, 0, none⟩) :: .pointer (some ⟨pb, 0, none⟩) :: .pointer (some ⟨pk, 0, none⟩) :: wv :: nv :: .int .i64 s.c.place :: .string (kL s.hl s.c.tx s.c.place) :: pv :: gv :: .int .i64 s.c.mode :: .bool s.c.over :: .int .i64 s.c.res :: .bool s.c.run :: u0 :: u1 :: u2 :: u3 :: u4 :: u5 :: u6 :: u7 :: u8 :: u9 :: ua :: ub :: .bool s.given :: .bool s.minus :: .int .i64 s.arg :: .int .i64 s.CX :: .int .i64 s.Yk :: .int .i64 s.Yl :: .int .i64 s.um :: .bool s.inn :: .int .i64 s.cls :: .int .i64 yf :: .int .i64 yt :: .bool s.argues :: .bool s.killed :: .bool s.kU :: nw :: .bool s.whole :: .bool ch :: []).toArray 174 (0, 0)) • ql pb s.c.L s.c.pt s.c.mark • oq pk s.c.E s.c.at_ • xY 1 wv (s.hl.length + 1) (strs (qc s.hl)) • Row 9 1 nv (s.hl.length + 1) (strs (xW s.hl s.c.tx)) • oP .i64 pv (A.map (·.1)) • xY 1 gv A.length (A.map (·.2.1)) • uh A • kC h s.hl s.base s.most • Row 189 3 nw s.put.length (es.flatMap fA.enc) • lW es • EK s.inn s.hl s.was [u0, u1, u2, u3, u4, u5, u6, u7, u8, u9, ua, ub]
section
variable {w0 w : World} {F : HP} {y : Nat} {s : bn}
theorem V.SK (H : V w0 w (qW y s • F)) : ∃ h pb pk wv nv pv gv A nw es yf yt ch u0 u1 u2 u3 u4 u5 u6 u7 u8 u9 ua ub, lg s es A yf yt ∧ es.length = s.put.length ∧ V w0 w (dW y (.cells (.pointer (some ⟨h, 0, none⟩) :: .pointer (some ⟨pb, 0, none⟩) :: .pointer (some ⟨pk, 0, none⟩) :: wv :: nv :: .int .i64 s.c.place :: .string (kL s.hl s.c.tx s.c.place) :: pv :: gv :: .int .i64 s.c.mode :: .bool s.c.over :: .int .i64 s.c.res :: .bool s.c.run :: u0 :: u1 :: u2 :: u3 :: u4 :: u5 :: u6 :: u7 :: u8 :: u9 :: ua :: ub :: .bool s.given :: .bool s.minus :: .int .i64 s.arg :: .int .i64 s.CX :: .int .i64 s.Yk :: .int .i64 s.Yl :: .int .i64 s.um :: .bool s.inn :: .int .i64 s.cls :: .int .i64 yf :: .int .i64 yt :: .bool s.argues :: .bool s.killed :: .bool s.kU :: nw :: .bool s.whole :: .bool ch :: []).toArray 174 (0, 0)) • ql pb s.c.L s.c.pt s.c.mark • oq pk s.c.E s.c.at_ • xY 1 wv (s.hl.length + 1) (strs (qc s.hl)) • Row 9 1 nv (s.hl.length + 1) (strs (xW s.hl s.c.tx)) • oP .i64 pv (A.map (·.1)) • xY 1 gv A.length (A.map (·.2.1)) • uh A • kC h s.hl s.base s.most • Row 189 3 nw s.put.length (es.flatMap fA.enc) • lW es • EK s.inn s.hl s.was [u0, u1, u2, u3, u4, u5, u6, u7, u8, u9, ua, ub] • F) := by
  obtain ⟨⟨h, pb, pk, wv, nv, pv, gv, A, nw, es, yf, yt, ch, u0, u1, u2, u3, u4, u5, u6, u7, u8, u9, ua, ub⟩, H⟩ := H.nX
  obtain ⟨h1, H⟩ := H.flat.fact
  refine ⟨h, pb, pk, wv, nv, pv, gv, A, nw, es, yf, yt, ch, u0, u1, u2, u3, u4, u5, u6, u7, u8, u9, ua, ub, h1, ?_, ?_⟩
  · rw [← h1.says]; simp
  · exact H.of_eq (by simp only [dG])
theorem V.vY {h pb pk : Nat} {wv nv pv gv : Value} {A : List LE} {nw : Value} {es : List fA} {yf yt : Int} {ch : Bool} {u0 u1 u2 u3 u4 u5 u6 u7 u8 u9 ua ub : Value} (h1 : lg s es A yf yt) (H : V w0 w (dW y (.cells (.pointer (some ⟨h, 0, none⟩) :: .pointer (some ⟨pb, 0, none⟩) :: .pointer (some ⟨pk, 0, none⟩) :: wv :: nv :: .int .i64 s.c.place :: .string (kL s.hl s.c.tx s.c.place) :: pv :: gv :: .int .i64 s.c.mode :: .bool s.c.over :: .int .i64 s.c.res :: .bool s.c.run :: u0 :: u1 :: u2 :: u3 :: u4 :: u5 :: u6 :: u7 :: u8 :: u9 :: ua :: ub :: .bool s.given :: .bool s.minus :: .int .i64 s.arg :: .int .i64 s.CX :: .int .i64 s.Yk :: .int .i64 s.Yl :: .int .i64 s.um :: .bool s.inn :: .int .i64 s.cls :: .int .i64 yf :: .int .i64 yt :: .bool s.argues :: .bool s.killed :: .bool s.kU :: nw :: .bool s.whole :: .bool ch :: []).toArray 174 (0, 0)) • ql pb s.c.L s.c.pt s.c.mark • oq pk s.c.E s.c.at_ • xY 1 wv (s.hl.length + 1) (strs (qc s.hl)) • Row 9 1 nv (s.hl.length + 1) (strs (xW s.hl s.c.tx)) • oP .i64 pv (A.map (·.1)) • xY 1 gv A.length (A.map (·.2.1)) • uh A • kC h s.hl s.base s.most • Row 189 3 nw s.put.length (es.flatMap fA.enc) • lW es • EK s.inn s.hl s.was [u0, u1, u2, u3, u4, u5, u6, u7, u8, u9, ua, ub] • F)) : V w0 w (qW y s • F) :=
  V.jw ⟨h, pb, pk, wv, nv, pv, gv, A, nw, es, yf, yt, ch, u0, u1, u2, u3, u4, u5, u6, u7, u8, u9, ua, ub⟩ (V.deep (V.lK h1 (H.of_eq (by simp only [dG]))))
theorem XW {inn : Bool} {hl : List sN} {c : oC} {u : List Value} (H : V w0 w (EK inn hl c u • F)) : (u.all fun x => x.oneCell') = true := by
  unfold EK at H
  cases inn with
  | true =>
    rw [if_pos rfl] at H
    obtain ⟨x, H⟩ := H.nX
    exact H.flat.fact.1.2.2.2
  | false =>
    rw [if_neg (by decide)] at H
    exact H.fact.1
theorem V.Hf {hl : List sN} {c : oC} {u : List Value} (H : V w0 w F) (hu : (u.all fun x => x.oneCell') = true) : V w0 w (EK false hl c u • F) := by
  unfold EK
  rw [if_neg (by decide)]
  exact H.lK hu
theorem V.agL {hl : List sN} {c : oC} {u : List Value} (H : V w0 w (EK true hl c u • F)) : ∃ pb pk wv nv pv gv A, u = IE pb pk wv nv pv gv hl c ∧ Jr A = c.un ∧ yu hl A ∧ (u.all fun x => x.oneCell') = true ∧
    V w0 w (ql pb c.L c.pt c.mark • oq pk c.E c.at_ • xY 1 wv (hl.length + 1) (strs (qc hl)) • Row 9 1 nv (hl.length + 1) (strs (xW hl c.tx)) • oP .i64 pv (A.map (·.1)) • xY 1 gv A.length (A.map (·.2.1)) • uh A • F) := by
  unfold EK at H
  rw [if_pos rfl] at H
  obtain ⟨⟨pb, pk, wv, nv, pv, gv, A⟩, H⟩ := H.nX
  obtain ⟨⟨h1, h2, h3, h4⟩, H⟩ := H.flat.fact
  exact ⟨pb, pk, wv, nv, pv, gv, A, h1, h2, h3, h4, H.of_eq (by simp only [dG])⟩
theorem V.abP {hl : List sN} {c : oC} {pb pk : Nat} {wv nv pv gv : Value} {A : List LE} (h2 : Jr A = c.un) (h3 : yu hl A) (H : V w0 w (ql pb c.L c.pt c.mark • oq pk c.E c.at_ • xY 1 wv (hl.length + 1) (strs (qc hl)) • Row 9 1 nv (hl.length + 1) (strs (xW hl c.tx)) • oP .i64 pv (A.map (·.1)) • xY 1 gv A.length (A.map (·.2.1)) • uh A • F)) : V w0 w (EK true hl c (IE pb pk wv nv pv gv hl c) • F) := by
  have o1 := (H.f3).qP.one
  have o2 := (H.f4).aS.one
  have o3 := (H.f5).kR.one
  have o4 := (H.f6).qP.one
  have hu : ((IE pb pk wv nv pv gv hl c).all fun x => x.oneCell') = true := by
    unfold IE
    simp only [List.all_cons, List.all_nil, o1, o2, o3, o4, Bool.and_true, Bool.true_and]
    rfl
  unfold EK
  rw [if_pos rfl]
  exact V.jw ⟨pb, pk, wv, nv, pv, gv, A⟩ (V.deep (V.lK ⟨rfl, h2, h3, hu⟩ (H.of_eq (by simp only [dG]))))
end
section
variable {s : bn} {es : List fA} {A : List LE} {yf yt : Int}
theorem lg.jT (h : lg s es A yf yt) (L : List Int) (p m : Int) : lg (s.jT L p m) es A yf yt := ⟨yY h.ok _ _ _, h.rx, h.says, h.Jr, h.placed, h.Xt⟩
theorem lg.begin (h : lg s es A yf yt) (hi : s.inn = false) : lg s.aV [] A 0 0 := by
  have h1 := Rq h.ok hi
  have h0 := h.rx.1
  have hl := h.Jr
  have hq := h.placed
  rw [uX hi] at h1 ⊢
  exact ⟨h1, ⟨h0, fun _ => ⟨h0, rfl, fun _ => ⟨rfl, rfl⟩⟩, fun _ h2 => absurd h2 (by show ¬ (0 : Int) = 2; decide)⟩, rfl, hl, hq, fun _ h2 => absurd h2 (by show ¬ false = true; decide)⟩
theorem Ox {c : oC} (h : He c) {k : Int} {G : List (List jm)} (h1 : gV G [] ≤ 16384) (h2 : ∀ g ∈ G, g ≠ []) : He { c with un := xI c.un k G } := by
  refine ⟨fun j => ?_, h.2⟩
  show gV (xI c.un k G j) [] ≤ 16384 ∧ ∀ g ∈ xI c.un k G j, g ≠ []
  by_cases hj : j = k
  · subst hj; rw [iL]; exact ⟨h1, h2⟩
  · rw [vU _ _ hj]; exact h.1 j
theorem lg.none (h : lg s es A yf yt) {x : jm} (hx : x.2.1.length + x.2.2.length = 0) : lg (s.rC x) es A yf yt := by rw [DX hx]; exact h
theorem Hg (h : mM s) (hx : He s.c) (hp : s.put ≠ []) (on : Bool) : gV (s.jg on) [] ≤ 16384 ∧ (∀ g ∈ s.jg on, g ≠ []) ∧ ∀ g ∈ s.jg on, ∀ e ∈ g, zC e := by
  obtain ⟨h1, h2, h3, h4, h5, h6⟩ := h
  have hs := pz s.here s.put
  have hne := (hx.1 s.c.place).2
  have h6' : ∀ g ∈ s.here, ∀ e ∈ g, zC e := h6 s.c.place
  have key : ∀ (G : List (List jm)) (g : List jm), gV (G ++ [g]) [] ≤ gV s.here s.put → (∀ x ∈ G, x ∈ s.here) → (∀ e ∈ g, zC e) → g ≠ [] →
      gV (G ++ [g]) [] ≤ 16384 ∧ (∀ x ∈ G ++ [g], x ≠ []) ∧ ∀ x ∈ G ++ [g], ∀ e ∈ x, zC e := by
    intro G g a1 a2 a3 a4
    refine ⟨by omega, fun x hx => ?_, fun x hx => ?_⟩
    · rcases List.mem_append.1 hx with hx | hx
      · exact hne x (a2 x hx)
      · rw [List.mem_singleton.1 hx]; exact a4
    · rcases List.mem_append.1 hx with hx | hx
      · exact h6' x (a2 x hx)
      · rw [List.mem_singleton.1 hx]; exact a3
  unfold bn.jg
  rw [if_neg hp]
  cases on with
  | false =>
    rw [if_neg (by decide)]
    exact key s.here s.put (by rw [GX]; omega) (fun x hx => hx) h4 hp
  | true =>
    rw [if_pos rfl]
    by_cases h0 : s.here = []
    · rw [h0]
      exact key [] s.put (by rw [GX, Zv]; omega) (fun x hx => by cases hx) h4 hp
    · rw [List.getLast?_eq_some_getLast h0]
      have hd := GV h0
      have h2 : s.here.getLastD [] = s.here.getLast h0 := by rw [List.getLastD_eq_getLast?, List.getLast?_eq_some_getLast h0]; rfl
      rw [h2] at hd
      refine key s.here.dropLast (s.here.getLast h0 ++ s.put) ?_ (fun x hx => List.dropLast_subset _ hx) (fun e he => ?_) (fun he => hp (List.append_eq_nil_iff.1 he).2)
      · rw [GX, List.length_append, hs]
        unfold gV
        simp only [List.length_nil, Nat.add_zero]
        omega
      · rcases List.mem_append.1 he with he | he
        · exact h6' _ (List.getLast_mem h0) e he
        · exact h4 e he
theorem XY (h : mM s) (hx : He s.c) (on : Bool) : mM (s.fU on) := by
  by_cases hp : s.put = []
  · rw [Cc hp]; exact h
  · obtain ⟨f1, f2, f3⟩ := Hg h hx hp on
    rw [nU hp]
    obtain ⟨h1, h2, h3, h4, h5, h6⟩ := h
    refine ⟨h1, h2, h3, by simp, ?_, fun k g hg => ?_⟩
    · show gV (xI s.c.un s.c.place (s.jg on) s.c.place) [] ≤ 16384
      rw [iL]; exact f1
    · have hg' : g ∈ xI s.c.un s.c.place (s.jg on) k := hg
      by_cases hk : k = s.c.place
      · subst hk; rw [iL] at hg'; exact f3 g hg'
      · rw [vU _ _ hk] at hg'; exact h6 k g hg'
theorem XZ (h : mM s) (hx : RX s) (on : Bool) : RX (s.fU on) := by
  by_cases hp : s.put = []
  · rw [Cc hp]; exact hx
  · obtain ⟨f1, f2, f3⟩ := Hg h hx.1 hp on
    rw [nU hp]
    exact ⟨Ox hx.1 f1 f2, hx.2.1, hx.2.2⟩
theorem lg.sub (h : lg s es A yf yt) {G : List (List jm)} {A' : List LE} (h1 : gV G s.put ≤ gV s.here s.put) (h2 : ∀ g ∈ G, g ∈ s.here) (hA : _root_.Go.Proofs.YtpdeedplgmbopaaGreatDoor.Jr A' = xI s.c.un s.c.place G) (hP : yu s.hl A') : lg (s.nC G) es A' yf yt := by
  have ht := (h.rx.1.1 s.c.place).1
  have he : gV s.here s.put = gV s.here [] + s.put.length := pz _ _
  have hg : gV G s.put = gV G [] + s.put.length := pz _ _
  have hh : gV s.here [] ≤ 16384 := ht
  exact ⟨adB h.ok h1 h2, ⟨Ox h.rx.1 (by omega) (fun g hg => (h.rx.1.1 s.c.place).2 g (h2 g hg)), h.rx.2.1, h.rx.2.2⟩, h.says, hA, hP, h.Xt⟩
theorem X0 (h : He s.c) : s.here.length ≤ 16384 := by
  have h1 := (h.1 s.c.place).1
  have h2 := (h.1 s.c.place).2
  have key : ∀ G : List (List jm), (∀ g ∈ G, g ≠ []) → G.length ≤ (G.map List.length).sum := by
    intro G hG
    induction G with
    | nil => simp
    | cons g r ih =>
      have := ih (fun x hx => hG x (List.mem_cons_of_mem _ hx))
      have h3 : 0 < g.length := List.length_pos_iff.2 (hG g (List.mem_cons_self ..))
      simp only [List.length_cons, List.map_cons, List.sum_cons]
      omega
  have h4 := key (s.c.un s.c.place) h2
  unfold gV at h1
  simp only [List.length_nil, Nat.add_zero] at h1
  exact Nat.le_trans h4 h1
theorem Ve {hl : List sN} {A : List LE} {k : Int} {u : Value} {gs : List (Value × List fA)} (h : yu hl A) (hk : 0 ≤ k ∧ k ≤ hl.length) : yu hl (BG A k u gs) := abN h hk
end
end Go.Proofs.YtpdeedplgmbopaaGreatDoor
end
section
namespace Go.Proofs.YtpdeedplgmbopaaGreatDoor
open Go.RowKit
open _root_.Go.Proofs.Tryz
theorem Qb {A : List LE} {i : Nat} (h : i < A.length) : (A.map (·.1)).getD i 0 = (A.getD i default).1 := by simp [List.getD_eq_getElem?_getD, h]
theorem Ws {A : List LE} {i : Nat} (h : i < A.length) : (A.map (·.2.1)).getD i undef = (A.getD i default).2.1 := by simp [List.getD_eq_getElem?_getD, h]
theorem Oy {A : List LE} {p : LE → Bool} {i : Nat} (h : i < A.length) : (A.take (i + 1)).filter p = (A.take i).filter p ++ (if p (A.getD i default) then [A.getD i default] else []) := by
  rw [List.take_succ_eq_append_getElem h, List.filter_append, List.getD_eq_getElem?_getD, List.getElem?_eq_getElem h]
  simp only [Option.getD_some, List.filter_cons, List.filter_nil]
section
variable {w0 w : World} {F : HP} {y : Nat} {k : Int} {pv gv u : Value} {A : List LE} {gs : List (Value × List fA)}
theorem Vf {x0 x1 x2 x3 x4 x5 x6 x9 x10 x11 x12 yA x14 x15 x16 x17 x18 x19 x20 x21 yV x23 x24 x25 zo x27 x28 x29 x30 x31 x32 Ad x34 Qs Qu Qv x38 x39 x40 x41 : Value} (H : V w0 w (dW y (.cells (x0 :: x1 :: x2 :: x3 :: x4 :: x5 :: x6 :: pv :: gv :: x9 :: x10 :: x11 :: x12 :: yA :: x14 :: x15 :: x16 :: x17 :: x18 :: x19 :: x20 :: x21 :: yV :: x23 :: x24 :: x25 :: zo :: x27 :: x28 :: x29 :: x30 :: x31 :: x32 :: Ad :: x34 :: Qs :: Qu :: Qv :: x38 :: x39 :: x40 :: x41 :: []).toArray 174 (0, 0)) • oP .i64 pv (A.map (·.1)) • xY 1 gv A.length (A.map (·.2.1)) • uh A • F)) : iE prog 155 #[.pointer (some ⟨y, 7, none⟩), .int .i64 k] w fun v' w' => ∃ gs, Ea gs = Jr A k ∧
  V w0 w' (xY 1 v' gs.length (gs.map (·.1)) • pY gs • dW y (.cells (x0 :: x1 :: x2 :: x3 :: x4 :: x5 :: x6 :: pv :: gv :: x9 :: x10 :: x11 :: x12 :: yA :: x14 :: x15 :: x16 :: x17 :: x18 :: x19 :: x20 :: x21 :: yV :: x23 :: x24 :: x25 :: zo :: x27 :: x28 :: x29 :: x30 :: x31 :: x32 :: Ad :: x34 :: Qs :: Qu :: Qv :: x38 :: x39 :: x40 :: x41 :: []).toArray 174 (0, 0)) • oP .i64 pv (A.map (·.1)) • xY 1 gv A.length (A.map (·.2.1)) • uh A • F) := by
 have hpl : (A.map (·.1)).length = A.length := List.length_map _
 have hcap : (A.length : Int) ≤ 9223372036854775807 := by obtain ⟨_, a, c, _, h2, h3, _⟩ := (H.f3).qP; omega
 refine oV func155 ntmps155 ?_
 refine jQ O (aN (jQ O (aY ?_)))
 refine gW [(0, _), (1, _)] (fun (i : Nat) => [(5, .int .i64 (i : Int))]) (fun (i : Nat) W => (i ≤ A.length ∧ ∀ j, j < i → (A.getD j default).1 ≠ k) ∧ V w0 W (dW y (.cells (x0 :: x1 :: x2 :: x3 :: x4 :: x5 :: x6 :: pv :: gv :: x9 :: x10 :: x11 :: x12 :: yA :: x14 :: x15 :: x16 :: x17 :: x18 :: x19 :: x20 :: x21 :: yV :: x23 :: x24 :: x25 :: zo :: x27 :: x28 :: x29 :: x30 :: x31 :: x32 :: Ad :: x34 :: Qs :: Qu :: Qv :: x38 :: x39 :: x40 :: x41 :: []).toArray 174 (0, 0)) • oP .i64 pv (A.map (·.1)) • xY 1 gv A.length (A.map (·.2.1)) • uh A • F)) (fun (i : Nat) => A.length - i) (0) uJ lU ⟨⟨by omega, fun j hj => by omega⟩, H.f4.f4.f4.f4⟩ ?_
 rintro i w1 ⟨⟨hi, hne⟩, HL⟩
 dsimp only [List.cons_append, List.nil_append]
 refine aN (bQ O (nG O O (bJ 0 kP O sizeOf167 O (fM iT O (HL).get.2 O (Z (iM ((HL.f2).kR) iT O) (Z (fZ O O) (jB O (fun h1 => ?_) (fun h1 => ?_))))))))
 ·(try simp only [aA] at h1)
  refine gG (aN (aY (aN ?_)))
  have hil : i < A.length := by omega
  refine aC (nG O O (bJ 0 kP O sizeOf167 O (fM iT O (HL).get.2 O (bT O ?_))))
  obtain ⟨bpv, opv, cpv, epv⟩ := gJ.rM ((HL.f2).kR) (by omega)
  cases epv
  refine Z (dP iT ay O O (by omega)) ?_
  refine Z (fK (dA aH O) O (by first | exact gJ.ni ((HL.f2).kR) (by omega) | exact gJ.yc ((HL.f2).kR) (by omega) | exact gJ.yx ((HL.f2).kR) (by omega))) ?_
  rw [Qb hil]
  refine bT O (Z (dX O O) (jB O (fun h2 => ?_) (fun h2 => ?_)))
  ·(try simp only [aA] at h2)
   have hek : (A.getD i default).1 = k := h2
   refine bQ O (dK O (bJ 1 kP O sizeOf168 O (fM mG O (HL).get.2 O (bT O ?_))))
   obtain ⟨bgv, ogv, cgv, egv⟩ := Rd.rM ((HL.f3).qP) (by omega)
   cases egv
   refine Z (dP mG gq O O (by omega)) ?_
   refine Z (fK (dA bK O) O (by first | exact Rd.ni ((HL.f3).qP) (by omega) | exact Rd.yc ((HL.f3).qP) (by omega) | exact Rd.yx ((HL.f3).qP) (by omega))) ?_
   rw [Ws hil]
   have hat := adF hil hne hek
   obtain ⟨xp, xv, xgs, hx⟩ : ∃ xp xv xgs, A.getD i default = (xp, xv, xgs) := ⟨_, _, _, rfl⟩
   rw [hx] at hat ⊢
   dsimp only at hat ⊢
   have Ho2 := HL.f4
   have Hc3 := Ho2.Wq hil hx
   refine fB O (aT (aB (aB (aT (aB (dL results155 O ?_))))))
   exact ⟨xgs, hat.symm, Hc3.f3.f6.f6.f6.f6.f6⟩
  ·(try simp only [aA] at h2)
   have hni : (A.getD i default).1 ≠ k := h2
   refine cZ (aK (aX (aC (bT O (Z (fJ O O (by omega)) (iK O (bW ?_)))))))
   refine dV (i + 1) ?_ ?_ ?_ ?_
   ·exact lU
   ·exact uJ
   ·(try dsimp only)
    first | done | exact ⟨⟨by omega, fun j hj => (show j < i ∨ j = i from by omega).elim (hne j) (fun c => c ▸ hni)⟩, HL.f4.f4.f4.f4⟩
   ·(try dsimp only); omega
 ·(try simp only [aA] at h1)
  refine dO (aO (aO (bI (aX (aN ?_)))))
  obtain rfl : i = A.length := by omega
  refine aC (fB O (dL results155 O ?_))
  exact ⟨[], by rw [aaj hne]; rfl, ((HL.f4.f4.f4.f4).abO none).Wp⟩
theorem SL {x0 x1 x2 x3 x4 x5 x6 x9 x10 x11 x12 yA x14 x15 x16 x17 x18 x19 x20 x21 yV x23 x24 x25 zo x27 x28 x29 x30 x31 x32 Ad x34 Qs Qu Qv x38 x39 x40 x41 : Value} (H : V w0 w (dW y (.cells (x0 :: x1 :: x2 :: x3 :: x4 :: x5 :: x6 :: pv :: gv :: x9 :: x10 :: x11 :: x12 :: yA :: x14 :: x15 :: x16 :: x17 :: x18 :: x19 :: x20 :: x21 :: yV :: x23 :: x24 :: x25 :: zo :: x27 :: x28 :: x29 :: x30 :: x31 :: x32 :: Ad :: x34 :: Qs :: Qu :: Qv :: x38 :: x39 :: x40 :: x41 :: []).toArray 174 (0, 0)) • oP .i64 pv (A.map (·.1)) • xY 1 gv A.length (A.map (·.2.1)) • uh A • xY 1 u gs.length (gs.map (·.1)) • pY gs • F)) (hA : A.length ≤ 4097) : iE prog 156 #[.pointer (some ⟨y, 7, none⟩), .int .i64 k, u] w fun _ w' => ∃ pv' gv',
  V w0 w' (dW y (.cells (x0 :: x1 :: x2 :: x3 :: x4 :: x5 :: x6 :: pv' :: gv' :: x9 :: x10 :: x11 :: x12 :: yA :: x14 :: x15 :: x16 :: x17 :: x18 :: x19 :: x20 :: x21 :: yV :: x23 :: x24 :: x25 :: zo :: x27 :: x28 :: x29 :: x30 :: x31 :: x32 :: Ad :: x34 :: Qs :: Qu :: Qv :: x38 :: x39 :: x40 :: x41 :: []).toArray 174 (0, 0)) • oP .i64 pv' ((BG A k u gs).map (·.1)) • xY 1 gv' (BG A k u gs).length ((BG A k u gs).map (·.2.1)) • uh (BG A k u gs) • F) := by
 have hpl : (A.map (·.1)).length = A.length := List.length_map _
 have hfl : ∀ i, ((A.take i).filter fun x => x.1 != k).length ≤ A.length := fun i => Nat.le_trans (List.length_filter_le _ _) (by rw [List.length_take]; omega)
 have afe : ∀ i, (((A.take i).filter fun x => x.1 != k).map (·.1)).length = ((A.take i).filter fun x => x.1 != k).length := fun i => List.length_map _
 refine zT func156 ntmps156 ?_
 refine jQ O (jQ O (aN (jQ O (aY ?_))))
 refine gW [(0, _), (1, _), (2, _)] (fun (⟨i, u1, u2⟩ : Nat × Value × Value) => [(6, u1), (7, u2), (8, .int .i64 (i : Int))]) (fun (⟨i, u1, u2⟩ : Nat × Value × Value) W => i ≤ A.length ∧ V w0 W (ku 3 .i64 u1 (((A.take i).filter fun x => x.1 != k).map (·.1)) • Row 226 1 u2 ((A.take i).filter fun x => x.1 != k).length (((A.take i).filter fun x => x.1 != k).map (·.2.1)) • dW y (.cells (x0 :: x1 :: x2 :: x3 :: x4 :: x5 :: x6 :: pv :: gv :: x9 :: x10 :: x11 :: x12 :: yA :: x14 :: x15 :: x16 :: x17 :: x18 :: x19 :: x20 :: x21 :: yV :: x23 :: x24 :: x25 :: zo :: x27 :: x28 :: x29 :: x30 :: x31 :: x32 :: Ad :: x34 :: Qs :: Qu :: Qv :: x38 :: x39 :: x40 :: x41 :: []).toArray 174 (0, 0)) • oP .i64 pv (A.map (·.1)) • xY 1 gv A.length (A.map (·.2.1)) • uh A • xY 1 u gs.length (gs.map (·.1)) • pY gs • F)) (fun (⟨i, u1, u2⟩ : Nat × Value × Value) => A.length - i) ((0, .slice none 0 0, .slice none 0 0)) uK uK ⟨by omega, ((H.f6.f6.f6.f6.f6.f6).jk (e := 226) (sz := 1) none).jk none⟩ ?_
 rintro ⟨i, u1, u2⟩ w1 ⟨hi, HL⟩
 dsimp only [List.cons_append, List.nil_append]
 refine aN (bQ O (nG O O (bJ 0 kP O sizeOf167 O (fM iT O (HL.f3).get.2 O (Z (iM ((HL.f4).kR) iT O) (Z (fZ O O) (jB O (fun h1 => ?_) (fun h1 => ?_))))))))
 ·(try simp only [aA] at h1)
  refine gG (aN (aY (aN ?_)))
  have hil : i < A.length := by omega
  have hfi := hfl i
  have aff := afe i
  obtain ⟨xp, xv, xgs, hx⟩ : ∃ xp xv xgs, A.getD i default = (xp, xv, xgs) := ⟨_, _, _, rfl⟩
  refine aC (nG O O (bJ 0 kP O sizeOf167 O (fM iT O (HL.f3).get.2 O (bT O ?_))))
  obtain ⟨bpv, opv, cpv, epv⟩ := gJ.rM ((HL.f4).kR) (by omega)
  cases epv
  refine Z (dP iT ay O O (by omega)) ?_
  refine Z (fK (dA aH O) O (by first | exact gJ.ni ((HL.f4).kR) (by omega) | exact gJ.yc ((HL.f4).kR) (by omega) | exact gJ.yx ((HL.f4).kR) (by omega))) ?_
  rw [Qb hil, hx]
  dsimp only
  refine bT O (Z (ig O O) (jB O (fun h2 => ?_) (fun h2 => ?_)))
  ·(try simp only [aA] at h2)
   have hne : ¬ xp = k := h2
   refine bQ O (nG O O (bJ 0 kP O sizeOf167 O (fM iT O (HL.f3).get.2 O (bT O (Z (dP iT ay O O (by omega)) ?_)))))
   refine Z (fK (dA aH O) O (by first | exact gJ.ni ((HL.f4).kR) (by omega) | exact gJ.yc ((HL.f4).kR) (by omega) | exact gJ.yx ((HL.f4).kR) (by omega))) ?_
   rw [Qb hil, hx]
   dsimp only
   refine kD (uI (k := .i64) (l := [_]) HL iT ay zeroValue3 O O O (by decide)) ?_
   rintro l2 w2 H2
   refine kD (nN H2.f2 ((H2).aS) iT afg O O (by first | omega | (simp only [List.length_append, List.length_nil, List.length_cons]; omega) | (simp; omega)) (by first | omega | (simp only [List.length_append, List.length_nil, List.length_cons]; omega) | (simp; omega))) ?_
   rintro l3 w3 H3
   try simp only [List.nil_append] at H3
   refine fG O (aC (jR O O (dK O (bJ 1 kP O sizeOf168 O (fM mG O (H3.f4).get.2 O (bT O ?_))))))
   obtain ⟨bgv, ogv, cgv, egv⟩ := Rd.rM ((H3.f6).qP) (by omega)
   cases egv
   refine Z (dP mG gq O O (by omega)) ?_
   refine Z (fK (dA bK O) O (by first | exact Rd.ni ((H3.f6).qP) (by omega) | exact Rd.yc ((H3.f6).qP) (by omega) | exact Rd.yx ((H3.f6).qP) (by omega))) ?_
   rw [Ws hil, hx]
   dsimp only
   have QL := H3.f7
   have Qi := QL.Wq hil hx
   refine kD (lq (vs := [_]) Qi mG gq zeroValue226 O O O (by decide) (aZ (by first | rfl | exact Rd.one ((Qi).qP)) bU)) ?_
   rintro l6 w6 H6
   refine kD (iy H6.f7 mG aaq O O O ((H6).aS) (aZ (by first | rfl | exact Rd.one ((H6.f2).qP)) bU) (by omega) (by omega)) ?_
   rintro l7 w7 H7
   have Hd8 := H7.f2.right
   refine iK O (bW (aK (aX (aC (bT O (Z (fJ O O (by omega)) (iK O (bW ?_))))))))
   refine dV ((i + 1, l3, l7)) ?_ ?_ ?_ ?_
   ·exact uK
   ·exact uK
   ·(try dsimp only)
    first | done | exact ⟨by omega, by rw [Oy hil, hx]; dsimp only; first | (rw [if_pos (by simpa using hne)]; simp only [List.map_append, List.length_append]; exact Hd8.f2.right.f2.right.f4.right.f8.f8.f4.f8.f8.f8.f7.f8) | (rw [if_neg (by simpa using heq), List.append_nil]; exact Hd8.f2.right.f2.right.f4.right.f8.f8.f4.f8.f8.f8.f7.f8)⟩
   ·(try dsimp only); omega
  ·(try simp only [aA] at h2)
   have heq : xp = k := by have h9 := h2; omega
   refine cZ (aK (aX (aC (bT O (Z (fJ O O (by omega)) (iK O (bW ?_)))))))
   refine dV ((i + 1, u1, u2)) ?_ ?_ ?_ ?_
   ·exact uK
   ·exact uK
   ·(try dsimp only)
    first | done | exact ⟨by omega, by rw [Oy hil, hx]; dsimp only; first | (rw [if_pos (by simpa using hne)]; simp only [List.map_append, List.length_append]; exact HL.f8.f8.f8.f8.f8.f8.f8.f8) | (rw [if_neg (by simpa using heq), List.append_nil]; exact HL.f8.f8.f8.f8.f8.f8.f8.f8)⟩
   ·(try dsimp only); omega
 ·(try simp only [aA] at h1)
  refine dO (aO (aO (bI (aX ?_))))
  obtain rfl : i = A.length := by omega
  have HX := HL
  rw [List.take_length] at HX
  have hfi := hfl A.length
  have aff := afe A.length
  rw [List.take_length] at hfi aff
  refine aC (jR O O (jR O O (kD (uI (k := .i64) (l := [_]) HX iT ay zeroValue3 O O O (by decide)) ?_)))
  rintro l9 w9 H9
  refine kD (nN H9.f2 ((H9).aS) iT afg O O (by first | omega | (simp only [List.length_append, List.length_nil, List.length_cons]; omega) | (simp; omega)) (by first | omega | (simp only [List.length_append, List.length_nil, List.length_cons]; omega) | (simp; omega))) ?_
  rintro l10 w10 pR
  try simp only [List.nil_append] at pR
  refine jR O O (kD (lq (vs := [_]) pR mG gq zeroValue226 O O O (by decide) (aZ (by first | rfl | exact Rd.one ((pR.f8).qP)) bU)) ?_)
  rintro l11 Fv tq
  refine kD (iy tq.f4 mG aaq O O O ((tq).aS) (aZ (by first | rfl | exact Rd.one ((tq.f9).qP)) bU) (by omega) (by omega)) ?_
  rintro l12 w12 vZ
  have afh := vZ.f2.right
  refine dK O (bJ 0 kP O sizeOf167 O (aJ (fP 7 (l' := [_, _, _, _, _, _, _, _, _, _, _, _, _, _, _, _, _, _, _, _, _, _, _, _, _, _, _, _, _, _, _, _, _, _, _, _, _, _, _, _, _, _]) afh.f4 sizeOf167 O O (by first | rfl | exact Rd.one ((afh.f2).aS)) O O) ?_))
  rintro _ OQ AZ
  refine dK O (bJ 1 kP O sizeOf168 O (aJ (fP 8 (l' := [_, _, _, _, _, _, _, _, _, _, _, _, _, _, _, _, _, _, _, _, _, _, _, _, _, _, _, _, _, _, _, _, _, _, _, _, _, _, _, _, _, _]) AZ sizeOf168 O O (by first | rfl | exact Rd.one ((AZ.f2).aS)) O O) ?_))
  rintro _ QE zU
  refine bW (lM (.inr O) results156 ?_)
  have hs1 : (BG A k u gs).map (·.1) = (A.filter fun x => x.1 != k).map (·.1) ++ [k] := by unfold BG; rw [List.map_append]; rfl
  have hs2 : (BG A k u gs).map (·.2.1) = (A.filter fun x => x.1 != k).map (·.2.1) ++ [u] := by unfold BG; rw [List.map_append]; rfl
  have hs3 : (BG A k u gs).length = (A.filter fun x => x.1 != k).length + 1 := by unfold BG; rw [List.length_append]; rfl
  have HQ := (zU.f4.right.f4.right.f4.right.f2.f3.f6.f6.f6).aal (p := k) |>.f2.lN.f3.IB.f4.f3.f2
  exact ⟨_, _, by rw [hs1, hs2, hs3]; exact HQ⟩
end
section
variable {w0 w : World} {F : HP} {y : Nat} {s : bn} {x : Int} {b : Bool}
theorem Qc (H : V w0 w (qW y s • F)) : iE prog 63 #[.pointer (some ⟨y, 0, none⟩), .int .i64 x] w fun v w' => v = .int .i64 (s.uq x) ∧ V w0 w' (qW y (s.yD x) • F) := by
 refine oV func63 ntmps63 ?_
 refine jQ O (aN (aN ?_))
 obtain ⟨h_y, MW, MX, MZ, Na, X3, X5, A_y, X6, X7, SN, SQ, SS, Nb, Nc, Nh, Nj, Nk, Nl, Np, Nq, Nr, Ns, Nu, Nv, sD, FZ, yw⟩ := (H).SK
 refine aC (nG O O (bJ 32 aQ O aP O (fM bY O (yw).get.2 O (Z (lJ O) (jG O (fun h1 => ?_) (fun h1 => ?_))))))
 ·(try simp only [aA] at h1)
  refine bF (bF (iU O O (bT O (bF (bF (iU O O (iJ (CP (jM O (aB (dL results63 O ?_)))))))))))
  have hd : s.uq x = 1 := by
   unfold bn.uq
   by_cases hin : s.inn = true
   ·rw [if_pos hin, if_pos (by first | omega | (exfalso; simp_all))]
   ·rw [if_neg hin]
  have Xc := yw.f12.f12.f12.f12.f12.f12.f12.f12.f12.f12.f12.f12
  have VG := V.vY (s := s) sD Xc
  exact ⟨by rw [hd], by unfold bn.yD; rw [if_neg (by rw [hd]; decide)]; exact VG⟩
 ·(try simp only [aA] at h1)
  refine bg (bT O (bg (Z (fZ O O) (iH O O (jG O (fun h2 => ?_) (fun h2 => ?_))))))
  ·(try simp only [aA] at h2)
   refine bF (bF (iU O O (iJ (CP (jM O (aB (dL results63 O ?_)))))))
   have hd : s.uq x = 1 := by
    unfold bn.uq
    by_cases hin : s.inn = true
    ·rw [if_pos hin, if_pos (by first | omega | (exfalso; simp_all))]
    ·rw [if_neg hin]
   have Xg := yw.f12.f12.f12.f12.f12.f12.f12.f12.f12.f12.f12.f12
   have Xh := V.vY (s := s) sD Xg
   exact ⟨by rw [hd], by unfold bn.yD; rw [if_neg (by rw [hd]; decide)]; exact Xh⟩
  ·(try simp only [aA] at h2)
   refine bg (bT O (bg (Z (dY O O) (iH O O (jB O (fun h3 => ?_) (fun h3 => ?_))))))
   ·(try simp only [aA] at h3)
    refine jM O (aB (dL results63 O ?_))
    have hd : s.uq x = 1 := by
     unfold bn.uq
     by_cases hin : s.inn = true
     ·rw [if_pos hin, if_pos (by first | omega | (exfalso; simp_all))]
     ·rw [if_neg hin]
    have Ho9 := yw.f12.f12.f12.f12.f12.f12.f12.f12.f12.f12.f12.f12
    have ada := V.vY (s := s) sD Ho9
    exact ⟨by rw [hd], by unfold bn.yD; rw [if_neg (by rw [hd]; decide)]; exact ada⟩
   ·(try simp only [aA] at h3)
    refine gG (aN ?_)
    have hin : s.inn = true := by first | assumption | (simp_all; done)
    have hd : s.uq x = 0 := by unfold bn.uq; rw [if_pos hin, if_neg (by omega)]
    refine aC (jR O O (dK O (bJ 1 aQ O fO O (bJ 8 dI O ay O (aJ (mQ 9 yw ay) ?_)))))
    rintro _ Fv tq
    refine iJ (jM O (dL results63 O ?_))
    rw [hd]
    refine ⟨O, ?_⟩
    unfold bn.yD
    rw [if_pos hd]
    exact V.vY (s := { s with c := { s.c with mode := x } }) ⟨sD.ok, sD.rx, sD.says, sD.Jr, sD.placed, sD.Xt⟩ tq.f12.f12.f12.f12.f12.f12.f12.f12.f12.f12.f12.f12
end
end Go.Proofs.YtpdeedplgmbopaaGreatDoor
end
section
namespace Go.Proofs.YtpdeedplgmbopaaGreatDoor
open Go.RowKit
section
variable {w0 w : World} {F : HP} {e h : Nat} {hl : List sN} {base most : Int}
end
section
variable {w0 w : World} {F : HP} {l : List sN} {v : Value}
end
end Go.Proofs.YtpdeedplgmbopaaGreatDoor
end
