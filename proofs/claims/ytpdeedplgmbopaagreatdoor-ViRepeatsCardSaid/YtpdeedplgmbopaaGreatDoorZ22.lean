import Derived.Test.YtpdeedplgmbopaaGreatDoorZ4
import Derived.Test.YtpdeedplgmbopaaGreatDoorZ17
import Derived.Test.YtpdeedplgmbopaaGreatDoorZ9
import Derived.Test.YtpdeedplgmbopaaGreatDoorZ8
import Derived.Test.YtpdeedplgmbopaaGreatDoorZ6
import Derived.Test.YtpdeedplgmbopaaGreatDoorZ7
import Derived.Test.YtpdeedplgmbopaaGreatDoorZ5
import Derived.Test.YtpdeedplgmbopaaGreatDoorZ11
import Derived.Test.YtpdeedplgmbopaaGreatDoorZ13
import Derived.Test.YtpdeedplgmbopaaGreatDoorZ15
set_option linter.unusedSimpArgs false
set_option linter.unusedVariables false
/- Texts of mine, joined, their names in short: RLs Ref7 Ref7b BufAny Ref7c RefAny RefRing REd REdX RLs2 REdA REd0 EBoth0. -/
section
namespace Go.Proofs.YtpdeedplgmbopaaGreatDoor
open Go.RowKit
def yT (sz : Nat) (v : Value) (n : Nat) (xs : List Value) : HP := know (fun I => FN I sz v n xs) fun _ _ hl h => h.mono hl
abbrev LE := Int × Value × List (Value × List fM)
def ES (gs : List (Value × List fM)) : List (List jl) := gs.map fun g => g.2.map fM.says
def Jw (A : List LE) (k : Int) : List (List jl) := ((A.find? fun x => x.1 == k).map fun x => ES x.2.2).getD []
def CX (A : List LE) (k : Int) (u : Value) (gs : List (Value × List fM)) : List LE := A.filter (fun x => x.1 != k) ++ [(k, u, gs)]
def GlI (I : Hp) (v : Value) (gs : List (Value × List fM)) : Prop := FN I 1 v gs.length (gs.map (·.1)) ∧ Gt I gs
theorem GlI.mono {I I' : Hp} {v : Value} {gs : List (Value × List fM)} (hl : Hp.le I I') (h : GlI I v gs) : GlI I' v gs := ⟨h.1.mono hl, h.2.mono hl⟩
def glK (v : Value) (gs : List (Value × List fM)) : HP := yT 1 v gs.length (gs.map (·.1)) • qP gs
def adI (I : Hp) (A : List LE) : Prop := ∀ k, k < A.length → GlI I (A.getD k default).2.1 (A.getD k default).2.2
def uM (A : List LE) : HP := know (fun I => adI I A) fun _ _ hl h k hk => (h k hk).mono hl
def lsK (pv gv : Value) (A : List LE) : HP := pF .i64 pv (A.map (·.1)) • yT 1 gv A.length (A.map (·.2.1)) • uM A
theorem adJ (A : List LE) (k : Int) (u : Value) (gs : List (Value × List fM)) : Jw (CX A k u gs) = xk (Jw A) k (ES gs) := by
  funext j
  unfold Jw CX xk
  rw [List.find?_append]
  by_cases hj : j = k
  · subst hj
    rw [if_pos rfl, List.find?_eq_none.2 (by intro x hx; simp at hx; simpa using hx.2)]
    simp
  · rw [if_neg hj, List.find?_filter]
    have h1 : (fun a : LE => decide (a.1 != k ∧ (a.1 == j) = true)) = fun a : LE => a.1 == j := by
      funext a
      by_cases ha : a.1 = j
      · simp [ha, hj]
      · simp [ha]
    have h2 : (fun a : LE => (a.1 != k) && (a.1 == j)) = fun a : LE => a.1 == j := by
      funext a
      by_cases ha : a.1 = j
      · simp [ha, hj]
      · simp [ha]
    have h3 : ([(k, u, gs)] : List LE).find? (fun x => x.1 == j) = none := by
      rw [List.find?_eq_none]; intro x hx; rw [List.mem_singleton.1 hx]; simpa using Ne.symm hj
    first
      | rw [h3, Option.or_none, h2]
      | rw [h3, Option.or_none, h1]
      | (simp only [h3, Option.or_none, h2, h1])
theorem afP {A : List LE} {k : Int} {i : Nat} (hi : i < A.length) (hn : ∀ j, j < i → (A.getD j default).1 ≠ k) (he : (A.getD i default).1 = k) : Jw A k = ES (A.getD i default).2.2 := by
  induction A generalizing i with
  | nil => simp at hi
  | cons x r ih =>
    unfold Jw
    rw [List.find?_cons]
    cases i with
    | zero =>
      have : x.1 = k := he
      rw [show (x.1 == k) = true from by simpa using this]; rfl
    | succ m =>
      have h0 : x.1 ≠ k := hn 0 (by omega)
      rw [show (x.1 == k) = false from by simpa using h0]
      exact ih (i := m) (by simpa using hi) (fun j hj => hn (j + 1) (by omega)) he
theorem acb {A : List LE} {k : Int} (hn : ∀ j, j < A.length → (A.getD j default).1 ≠ k) : Jw A k = [] := by
  unfold Jw
  rw [List.find?_eq_none.2]
  · rfl
  · intro x hx
    obtain ⟨j, hj, rfl⟩ := List.getElem_of_mem hx
    have := hn j hj
    rw [List.getD_eq_getElem?_getD, List.getElem?_eq_getElem hj] at this
    simpa using this
theorem Qm : ∀ (n : Nat) (l : List Int), l.Nodup → (∀ x ∈ l, 0 ≤ x ∧ x < n) → l.length ≤ n
  | 0, l, _, h => by
    cases l with
    | nil => simp
    | cons x r => have := h x (List.mem_cons_self ..); omega
  | n + 1, l, hn, h => by
    have h1 : (l.erase (n : Int)).length ≤ n := Qm n (l.erase n) (hn.erase _) (fun x hx => by
      have hm := (List.Nodup.mem_erase_iff hn).1 hx
      have := h x hm.2
      have := hm.1
      omega)
    have h2 : l.length ≤ (l.erase (n : Int)).length + 1 := by rw [List.length_erase]; split <;> omega
    omega
theorem U4 (A : List LE) (k : Int) (u : Value) (gs : List (Value × List fM)) : (CX A k u gs).map (·.1) = (A.map (·.1)).filter (· != k) ++ [k] := by
  unfold CX
  rw [List.map_append, List.filter_map]; rfl
theorem adK {A : List LE} {n : Int} {k : Int} {u : Value} {gs : List (Value × List fM)} (h : (A.map (·.1)).Nodup ∧ ∀ x ∈ A.map (·.1), 0 ≤ x ∧ x ≤ n) (hk : 0 ≤ k ∧ k ≤ n) :
    ((CX A k u gs).map (·.1)).Nodup ∧ ∀ x ∈ (CX A k u gs).map (·.1), 0 ≤ x ∧ x ≤ n := by
  rw [U4]
  refine ⟨List.nodup_append.2 ⟨h.1.filter _, by simp, fun a ha b hb => ?_⟩, fun x hx => ?_⟩
  · rw [List.mem_singleton.1 hb]
    have := (List.mem_filter.1 ha).2
    simpa using this
  · rcases List.mem_append.1 hx with hx | hx
    · exact h.2 x (List.mem_filter.1 hx).1
    · rw [List.mem_singleton.1 hx]; exact hk
theorem Xv {A : List LE} {n : Int} (h : (A.map (·.1)).Nodup ∧ ∀ x ∈ A.map (·.1), 0 ≤ x ∧ x ≤ n) (hn : 0 ≤ n ∧ n ≤ 4096) : A.length ≤ 4097 := by
  have := Qm (n.toNat + 1) _ h.1 (fun x hx => by have := h.2 x hx; omega)
  rw [List.length_map] at this
  omega
section
variable {w0 w : World} {F : HP} {v u pv gv : Value} {n sz k : Nat} {xs : List Value} {es : List fM} {gs : List (Value × List fM)} {A : List LE} {x : LE}
theorem V.su (H : V w0 w (yT sz v n xs • F)) : Rd w sz v n xs := let ⟨I, h, hI⟩ := H.uZ; h.rd hI
theorem V.acd (H : V w0 w (yT sz v n xs • F)) : V w0 w (yT sz v n xs • yT sz v n xs • F) := H.sQ
theorem V.Xw (H : V w0 w F) (a : Option Addr) : V w0 w (yT sz (.slice a 0 0) 0 [] • F) := H.zn fun I => ⟨by simp, a, 0, rfl, by omega, by decide, fun h => by omega⟩
theorem V.Jy {t : TypeId} (H : V w0 w (Row t sz v n xs • F)) : V w0 w (yT sz v n xs • F) := by
  have hl := H.yw
  rcases H.uO with ⟨a, rfl, h1, h2, H1⟩ | ⟨g, o, c, cur, rfl, h2, h3, h4, h5, H1⟩
  · subst h1; exact H1.zn fun I => ⟨hl, a, 0, rfl, by omega, by decide, fun h => by omega⟩
  · exact H1.freeze.GY (rX (fun I hI => ⟨hl, _, c, rfl, h2, h3, fun _ => ⟨g, o, cur, _, (0, 0), rfl, hI, h5⟩⟩) F)
theorem V.YB (H : V w0 w (glK v gs • F)) : V w0 w (yT 1 v gs.length (gs.map (·.1)) • qP gs • F) := H.flat
theorem V.adL (H : V w0 w F) (a : Option Addr) : V w0 w (glK (.slice a 0 0) [] • F) := V.deep (H.L8.Xw (sz := 1) a)
theorem V.ET (H : V w0 w (Gu v gs • F)) : V w0 w (glK v gs • F) := V.deep (H.acS.Jy)
theorem V.YC {p : Int} (H : V w0 w (uM A • F)) (hk : k < A.length) (hx : A.getD k default = (p, v, gs)) : V w0 w (yT 1 v gs.length (gs.map (·.1)) • qP gs • uM A • F) := by
  have H2 : V w0 w (yT 1 (A.getD k default).2.1 (A.getD k default).2.2.length ((A.getD k default).2.2.map (·.1)) • uM A • uM A • F) := H.sQ.sQ.GY (rX (fun I h => (h k hk).1) _)
  have H3 : V w0 w (qP (A.getD k default).2.2 • yT 1 (A.getD k default).2.1 (A.getD k default).2.2.length ((A.getD k default).2.2.map (·.1)) • uM A • F) := H2.f2.GY (rX (fun I h => (h k hk).2) _)
  rw [hx] at H3
  exact H3.f2
theorem adI.set {I : Hp} {p : Int} (h : adI I A) (g : GlI I u gs) : adI I (CX A p u gs) := by
  have hm : ∀ x ∈ A, GlI I x.2.1 x.2.2 := fun x hx => by
    obtain ⟨j, hj, rfl⟩ := List.getElem_of_mem hx
    have := h j hj
    rwa [List.getD_eq_getElem?_getD, List.getElem?_eq_getElem hj] at this
  have hm2 : ∀ x ∈ CX A p u gs, GlI I x.2.1 x.2.2 := fun x hx => by
    rcases List.mem_append.1 hx with hx | hx
    · exact hm x (List.mem_filter.1 hx).1
    · rw [List.mem_singleton.1 hx]; exact g
  intro j hj
  rw [List.getD_eq_getElem?_getD, List.getElem?_eq_getElem hj]
  exact hm2 _ (List.getElem_mem hj)
theorem V.ace {p : Int} (H : V w0 w (uM A • yT 1 u gs.length (gs.map (·.1)) • qP gs • F)) : V w0 w (uM (CX A p u gs) • F) := by
  have H1 : V w0 w (know (fun I => GlI I u gs) (fun _ _ hl h => h.mono hl) • uM A • F) := (H.f3.f3 : V w0 w (yT 1 u gs.length (gs.map (·.1)) • qP gs • uM A • F)).GY (sW (fun I h g => ⟨h, g⟩) _)
  exact H1.f2.GY (sW (fun I h g => h.set g) _)
theorem V.U5 (H : V w0 w F) : V w0 w (uM [] • F) := H.zn fun I k hk => by simp at hk
theorem V.U6 {k : IntKind} (H : V w0 w F) (a : Option Addr) : V w0 w (pF k (.slice a 0 0) [] • F) := H.zn fun I => ⟨a, 0, rfl, by simp, by decide, fun h => by simp at h⟩
end
end Go.Proofs.YtpdeedplgmbopaaGreatDoor
end
section
namespace Go.Proofs.YtpdeedplgmbopaaGreatDoor
open Go.RowKit
open _root_.Go.Proofs.Tryz
def IU (v : Value) (pt mk : Int) : Array Value := #[v, .int .i64 pt, .int .i64 mk]
def qY (p : Nat) (L : List Int) (pt mk : Int) : HP := xQ fun (v : Value) => fact (L.length ≤ 1024 ∧ (0 ≤ pt ∧ pt ≤ L.length) ∧ (-1 ≤ mk ∧ mk ≤ L.length)) • eP p (.cells (IU v pt mk) 222 (0, 0)) • jw 21 .i32 v L
section
variable {w0 w : World} {F : HP} {p : Nat} {L : List Int} {pt mk : Int} {v : Value} {l : List Int} {i j : Int}
theorem V.ref (H : V w0 w (qY p L pt mk • F)) : ∃ (a : Option Addr) (c : Nat), L.length ≤ 1024 ∧ (0 ≤ pt ∧ pt ≤ L.length) ∧ (-1 ≤ mk ∧ mk ≤ L.length) ∧ L.length ≤ c ∧ (c : Int) ≤ 9223372036854775807 ∧
    V w0 w (eP p (.cells (IU (.slice a L.length c) pt mk) 222 (0, 0)) • jw 21 .i32 (.slice a L.length c) L • F) := by
  obtain ⟨v, H⟩ := H.oN
  obtain ⟨⟨h1, h2, h3⟩, H⟩ := H.flat.fact
  have H := H.flat
  obtain ⟨a, c, hv, hc1, hc2, _⟩ := (H.swap.aP).form
  subst hv
  exact ⟨a, c, h1, h2, h3, hc1, hc2, H⟩
theorem V.Xx (h1 : L.length ≤ 1024) (h2 : 0 ≤ pt ∧ pt ≤ L.length) (h3 : -1 ≤ mk ∧ mk ≤ L.length) (H : V w0 w (eP p (.cells (IU v pt mk) 222 (0, 0)) • jw 21 .i32 v L • F)) : V w0 w (qY p L pt mk • F) :=
  V.jV v (V.deep (V.mW ⟨h1, h2, h3⟩ (V.deep H)))
theorem RV (H : V w0 w F) (hr : jh w0 F .i32 v l) (hl : 1024 < l.length) : iQ prog 112 #[v] w fun v' w' => v' = .tuple #[.pointer none, .int .i64 3] ∧ w = w' := by
  obtain ⟨a, c, rfl, _, _, _⟩ := (hr w H).open
  refine ji func112 ntmps112 ?_
  refine iy (gU O (uf O (bM O (aQ (jH ah O) (aQ (eX O O) (iE (wcA O (fun h1 => ?_))))))))
  (try simp only [Z] at h1)
  refine iy (gU O (fA O (aA (KP results112 O O ?_))))
  exact ⟨O, O⟩
theorem U7 (H : V w0 w F) (hr : jh w0 F .i32 v l) (hl : l.length ≤ 1024) : iQ prog 112 #[v] w fun v' w' => ∃ p, v' = .tuple #[.pointer (some ⟨p, 0, none⟩), .int .i64 0] ∧ V w0 w' (qY p l l.length (-1) • F) := by
  obtain ⟨a, c, rfl, hc1, hc2, _⟩ := (hr w H).open
  refine ji func112 ntmps112 ?_
  refine iy (gU O (uf O (bM O (aQ (jH ah O) (aQ (eX O O) (iE (VH O (fun h1 => ?_))))))))
  (try simp only [Z] at h1)
  refine fV (ku O (bM O (bJ O (kF (lJ (l := []) (H.jO none) (hr _ H) ah Ed O O (by simp only [List.length_nil]; omega) (by simp only [List.length_nil]; omega)) ?_))))
  rintro u w1 H1
  rw [List.nil_append] at H1
  obtain ⟨au, cu, hu, _⟩ := (H1.aP).form
  subst hu
  refine dZ O (bM O (bJ O (aQ (jH ah O) (aQ (nP (pl := #[(0, 1), (1, 1), (2, 1)]) (IU (.slice au l.length cu) l.length (-1)) underlying222 zeroValue222 (fun w => by kernel_rfl) O (by kernel_rfl)) (kF (XF H1 O) ?_)))))
  rintro _ w2 ⟨b2, rfl, H2⟩
  refine gU O (fA O (KP results112 O O ?_))
  exact ⟨_, O, V.Xx hl (by omega) (by omega) H2⟩
end
end Go.Proofs.YtpdeedplgmbopaaGreatDoor
end
section
namespace Go.Proofs.YtpdeedplgmbopaaGreatDoor
open Go.RowKit
section
variable {w0 w : World} {F : HP} {p : Nat} {L : List Int} {pt mk x : Int} {v : Value} {l : List Int}
end
end Go.Proofs.YtpdeedplgmbopaaGreatDoor
end
section

end
section
namespace Go.Proofs.YtpdeedplgmbopaaGreatDoor
open Go.RowKit
section
variable {w0 w : World} {F : HP} {p : Nat} {L : List Int} {pt mk x : Int} {v : Value} {l : List Int}
end
section
variable {w0 w : World} {F : HP} {p : Nat} {L : List Int} {pt mk : Int} {v d s : Value} {l dl il : List Int} {i j a x : Int}
end
end Go.Proofs.YtpdeedplgmbopaaGreatDoor
end
section
namespace Go.Proofs.YtpdeedplgmbopaaGreatDoor
open Go.RowKit
open _root_.Go.Proofs.Tryz
section
variable {w0 w : World} {F : HP} {p place : Nat} {E ls : List (List Int)} {v x y : Value} {l m : List Int} {vs : List Value}
theorem acf (H : V w0 w F) (h1 : jh w0 F .i32 x l) (h2 : jh w0 F .i32 y m) (hb : l.length + m.length ≤ 35184372088832) :
    iQ prog 181 #[x, y] w fun v w' => V w0 w' (jw 21 .i32 v (l ++ m) • F) := by
  refine qc func181 ntmps181 ?_
  refine ku O (ku O (bM O (bJ O (kF (lJ (l := []) (H.jO none) (h1 _ (H)) ah UU O O (by first | omega | (simp only [List.length_append, List.length_nil, List.length_cons]; omega) | (simp; omega)) (by first | omega | (simp only [List.length_append, List.length_nil, List.length_cons]; omega) | (simp; omega))) ?_))))
  rintro l1 w1 H1
  try simp only [List.nil_append] at H1
  refine dZ O (bM O (bJ O (kF (lJ H1 (h2 _ (H1.right)) ah UU O O (by first | omega | (simp only [List.length_append, List.length_nil, List.length_cons]; omega) | (simp; omega)) (by first | omega | (simp only [List.length_append, List.length_nil, List.length_cons]; omega) | (simp; omega))) ?_)))
  rintro l2 w2 H2
  try simp only [List.nil_append] at H2
  refine fA O (dI results181 O ?_)
  simpa using H2
theorem ZL (H : V w0 w F) (h1 : jh w0 F .i32 x l) (hb : l.length ≤ 35184372088832) :
    iQ prog 181 #[x, .slice none 0 0] w fun v w' => V w0 w' (jw 21 .i32 v l • F) := by
  have := acf H h1 (fun W _ => fJ.nil W .i32 none 0 (by decide)) (by simpa using hb)
  simpa using this
def oZ (p : Nat) (E : List (List Int)) (place : Nat) : HP := xQ fun v => eP p (.cells #[v, .int .i64 place] 176 (0, 0)) • LL 22 .i32 v E
theorem V.ahC (H : V w0 w (oZ p E place • F)) : ∃ v, V w0 w (eP p (.cells #[v, .int .i64 place] 176 (0, 0)) • LL 22 .i32 v E • F) := let ⟨v, h⟩ := H.oN; ⟨v, h.flat⟩
theorem V.NV (H : V w0 w (eP p (.cells #[v, .int .i64 place] 176 (0, 0)) • LL 22 .i32 v E • F)) : V w0 w (oZ p E place • F) := V.jV v H.deep
theorem NW {α : Type _} {l : List α} {k : Nat} {d : α} (h : k < l.length) : l.take (k + 1) = l.take k ++ [l.getD k d] := by rw [List.take_succ_eq_append_getElem h, List.getD_eq_getElem?_getD, List.getElem?_eq_getElem h]; rfl
end
end Go.Proofs.YtpdeedplgmbopaaGreatDoor
end
section
namespace Go.Proofs.YtpdeedplgmbopaaGreatDoor
open Go.RowKit
def yR (hl : List tu) (tx : Int → Option ByteArray) : List ByteArray := (List.range (hl.length + 1)).map fun (k : Nat) => kJ hl tx (k : Int)
theorem Jz (hl : List tu) (tx : Int → Option ByteArray) : (yR hl tx).length = hl.length + 1 := by simp [yR]
theorem FC (hl : List tu) : (qU hl).length = hl.length + 1 := by simp [qU]
theorem acg {hl : List tu} {tx : Int → Option ByteArray} {k : Nat} (hk : k ≤ hl.length) : (yR hl tx).getD k .empty = kJ hl tx k := by
  unfold yR
  rw [List.getD_eq_getElem?_getD, List.getElem?_map, List.getElem?_range (by omega)]; rfl
theorem ach {hl : List tu} {k : Nat} (hk : k ≤ hl.length) : (qU hl).getD k .empty = Dl hl k := by
  unfold qU Dl TJ
  by_cases h : k < hl.length
  · rw [if_pos (by omega), List.getD_eq_getElem?_getD, List.getElem?_append_left (by simpa using h), List.getElem?_map, List.getElem?_eq_getElem h]
    simp [List.getD_eq_getElem?_getD, h]
  · obtain rfl : k = hl.length := by omega
    rw [if_neg (by omega), List.getD_eq_getElem?_getD, List.getElem?_append_right (by simp)]
    simp
theorem NY (hl : List tu) : yR hl (fun _ => none) = qU hl := by
  apply List.ext_getElem?
  intro k
  by_cases h : k ≤ hl.length
  · have h1 := acg (tx := fun _ => none) h
    have h2 := ach h
    rw [List.getD_eq_getElem?_getD, List.getElem?_eq_getElem (by rw [Jz]; omega)] at h1
    rw [List.getD_eq_getElem?_getD, List.getElem?_eq_getElem (by rw [FC]; omega)] at h2
    rw [List.getElem?_eq_getElem (by rw [Jz]; omega), List.getElem?_eq_getElem (by rw [FC]; omega)]
    simp only [Option.getD_some] at h1 h2
    rw [h1, h2]; rfl
  · rw [List.getElem?_eq_none (by rw [Jz]; omega), List.getElem?_eq_none (by rw [FC]; omega)]
def IV (c : oQ) : Prop := (∀ k, ig (c.un k) [] ≤ 16384 ∧ ∀ g ∈ c.un k, g ≠ []) ∧ (c.E.length ≤ 60 ∧ (c.at_ < c.E.length ∨ c.at_ = 0) ∧ ∀ e ∈ c.E, e.length ≤ 1024)
def RX (s : bF) : Prop := IV s.c ∧ (s.inn = true → IV s.was ∧ s.c.last = s.was.last ∧ (s.lT = false → s.c.fr = s.was.fr ∧ s.c.to = s.was.to)) ∧ (s.inn = true → s.cls = 2 → s.lT = true)
def yj (hl : List tu) (A : List LE) : Prop := (A.map (·.1)).Nodup ∧ ∀ x ∈ A.map (·.1), 0 ≤ x ∧ x ≤ (hl.length : Int)
def JA (pb pk : Nat) (wv nv pv gv : Value) (hl : List tu) (c : oQ) : List Value := [.pointer (some ⟨pb, 0, none⟩), .pointer (some ⟨pk, 0, none⟩), wv, nv, .int .i64 c.place, .string (kJ hl c.tx c.place), pv, gv, .int .i64 c.mode, .bool c.over, .int .i64 c.res, .bool c.run]
structure ROP where
  pb : Nat
  pk : Nat
  wv : Value
  nv : Value
  pv : Value
  gv : Value
  A : List LE
def FT (inn : Bool) (hl : List tu) (c : oQ) (u : List Value) : HP := if inn = true then xQ fun (x : ROP) => fact (u = JA x.pb x.pk x.wv x.nv x.pv x.gv hl c ∧ Jw x.A = c.un ∧ yj hl x.A ∧ (u.all fun x => x.oneCell') = true) •
  qY x.pb c.L c.pt c.mark • oZ x.pk c.E c.at_ • yT 1 x.wv (hl.length + 1) (strs (qU hl)) • Row 9 1 x.nv (hl.length + 1) (strs (yR hl c.tx)) • pF .i64 x.pv (x.A.map (·.1)) • yT 1 x.gv x.A.length (x.A.map (·.2.1)) • uM x.A else fact ((u.all fun x => x.oneCell') = true)
structure kK (s : bF) (es : List fM) (A : List LE) (yf yt : Int) : Prop where
  ok : nT s
  rx : RX s
  says : es.map fM.says = s.put
  Jw : Jw A = s.c.un
  placed : yj s.hl A
  Ut : s.inn = true → s.lT = true → yf = s.c.fr ∧ yt = s.c.to
structure RdP where
  h : Nat
  pb : Nat
  pk : Nat
  wv : Value
  nv : Value
  pv : Value
  gv : Value
  A : List LE
  nw : Value
  es : List fM
  yf : Int
  yt : Int
  ch : Bool
  u0 : Value
  u1 : Value
  u2 : Value
  u3 : Value
  u4 : Value
  u5 : Value
  u6 : Value
  u7 : Value
  u8 : Value
  u9 : Value
  ua : Value
  ub : Value
def sH (y : Nat) (s : bF) : HP := xQ fun (x : RdP) => match x with
  | ⟨h, pb, pk, wv, nv, pv, gv, A, nw, es, yf, yt, ch, u0, u1, u2, u3, u4, u5, u6, u7, u8, u9, ua, ub⟩ => fact (kK s es A yf yt) • eP y (.cells (.pointer (some ⟨h, 0, none⟩) :: .pointer (some ⟨pb, 0, none⟩) :: .pointer (some ⟨pk, 0, none⟩) :: wv :: nv :: .int .i64 s.c.place :: .string (kJ s.hl s.c.tx s.c.place) :: pv :: gv :: .int .i64 s.c.mode :: .bool s.c.over :: .int .i64 s.c.res :: .bool s.c.run :: u0 :: u1 :: u2 :: u3 :: u4 :: u5 :: u6 :: u7 :: u8 :: u9 :: ua :: ub :: .bool s.given :: .bool s.minus :: .int .i64 s.arg :: .int .i64 s.DL :: .int .i64 s.Z8 :: .int .i64 s.Z9 :: .int .i64 s.qQ :: .bool s.inn :: .int .i64 s.cls :: .int .i64 yf :: .int .i64 yt :: .bool s.argues :: .bool s.killed :: .bool s.lT :: nw :: .bool s.whole :: .bool ch :: []).toArray 174 (0, 0)) • qY pb s.c.L s.c.pt s.c.mark • oZ pk s.c.E s.c.at_ • yT 1 wv (s.hl.length + 1) (strs (qU s.hl)) • Row 9 1 nv (s.hl.length + 1) (strs (yR s.hl s.c.tx)) • pF .i64 pv (A.map (·.1)) • yT 1 gv A.length (A.map (·.2.1)) • uM A • kQ h s.hl s.base s.most • Row 189 3 nw s.put.length (es.flatMap fM.enc) • nC es • FT s.inn s.hl s.was [u0, u1, u2, u3, u4, u5, u6, u7, u8, u9, ua, ub]
section
variable {w0 w : World} {F : HP} {y : Nat} {s : bF}
theorem V.U8 (H : V w0 w (sH y s • F)) : ∃ h pb pk wv nv pv gv A nw es yf yt ch u0 u1 u2 u3 u4 u5 u6 u7 u8 u9 ua ub, kK s es A yf yt ∧ es.length = s.put.length ∧ V w0 w (eP y (.cells (.pointer (some ⟨h, 0, none⟩) :: .pointer (some ⟨pb, 0, none⟩) :: .pointer (some ⟨pk, 0, none⟩) :: wv :: nv :: .int .i64 s.c.place :: .string (kJ s.hl s.c.tx s.c.place) :: pv :: gv :: .int .i64 s.c.mode :: .bool s.c.over :: .int .i64 s.c.res :: .bool s.c.run :: u0 :: u1 :: u2 :: u3 :: u4 :: u5 :: u6 :: u7 :: u8 :: u9 :: ua :: ub :: .bool s.given :: .bool s.minus :: .int .i64 s.arg :: .int .i64 s.DL :: .int .i64 s.Z8 :: .int .i64 s.Z9 :: .int .i64 s.qQ :: .bool s.inn :: .int .i64 s.cls :: .int .i64 yf :: .int .i64 yt :: .bool s.argues :: .bool s.killed :: .bool s.lT :: nw :: .bool s.whole :: .bool ch :: []).toArray 174 (0, 0)) • qY pb s.c.L s.c.pt s.c.mark • oZ pk s.c.E s.c.at_ • yT 1 wv (s.hl.length + 1) (strs (qU s.hl)) • Row 9 1 nv (s.hl.length + 1) (strs (yR s.hl s.c.tx)) • pF .i64 pv (A.map (·.1)) • yT 1 gv A.length (A.map (·.2.1)) • uM A • kQ h s.hl s.base s.most • Row 189 3 nw s.put.length (es.flatMap fM.enc) • nC es • FT s.inn s.hl s.was [u0, u1, u2, u3, u4, u5, u6, u7, u8, u9, ua, ub] • F) := by
  obtain ⟨⟨h, pb, pk, wv, nv, pv, gv, A, nw, es, yf, yt, ch, u0, u1, u2, u3, u4, u5, u6, u7, u8, u9, ua, ub⟩, H⟩ := H.oN
  obtain ⟨h1, H⟩ := H.flat.fact
  refine ⟨h, pb, pk, wv, nv, pv, gv, A, nw, es, yf, yt, ch, u0, u1, u2, u3, u4, u5, u6, u7, u8, u9, ua, ub, h1, ?_, ?_⟩
  · rw [← h1.says]; simp
  · exact H.of_eq (by simp only [dH])
theorem V.xE {h pb pk : Nat} {wv nv pv gv : Value} {A : List LE} {nw : Value} {es : List fM} {yf yt : Int} {ch : Bool} {u0 u1 u2 u3 u4 u5 u6 u7 u8 u9 ua ub : Value} (h1 : kK s es A yf yt) (H : V w0 w (eP y (.cells (.pointer (some ⟨h, 0, none⟩) :: .pointer (some ⟨pb, 0, none⟩) :: .pointer (some ⟨pk, 0, none⟩) :: wv :: nv :: .int .i64 s.c.place :: .string (kJ s.hl s.c.tx s.c.place) :: pv :: gv :: .int .i64 s.c.mode :: .bool s.c.over :: .int .i64 s.c.res :: .bool s.c.run :: u0 :: u1 :: u2 :: u3 :: u4 :: u5 :: u6 :: u7 :: u8 :: u9 :: ua :: ub :: .bool s.given :: .bool s.minus :: .int .i64 s.arg :: .int .i64 s.DL :: .int .i64 s.Z8 :: .int .i64 s.Z9 :: .int .i64 s.qQ :: .bool s.inn :: .int .i64 s.cls :: .int .i64 yf :: .int .i64 yt :: .bool s.argues :: .bool s.killed :: .bool s.lT :: nw :: .bool s.whole :: .bool ch :: []).toArray 174 (0, 0)) • qY pb s.c.L s.c.pt s.c.mark • oZ pk s.c.E s.c.at_ • yT 1 wv (s.hl.length + 1) (strs (qU s.hl)) • Row 9 1 nv (s.hl.length + 1) (strs (yR s.hl s.c.tx)) • pF .i64 pv (A.map (·.1)) • yT 1 gv A.length (A.map (·.2.1)) • uM A • kQ h s.hl s.base s.most • Row 189 3 nw s.put.length (es.flatMap fM.enc) • nC es • FT s.inn s.hl s.was [u0, u1, u2, u3, u4, u5, u6, u7, u8, u9, ua, ub] • F)) : V w0 w (sH y s • F) :=
  V.jV ⟨h, pb, pk, wv, nv, pv, gv, A, nw, es, yf, yt, ch, u0, u1, u2, u3, u4, u5, u6, u7, u8, u9, ua, ub⟩ (V.deep (V.mW h1 (H.of_eq (by simp only [dH]))))
theorem ZM {inn : Bool} {hl : List tu} {c : oQ} {u : List Value} (H : V w0 w (FT inn hl c u • F)) : (u.all fun x => x.oneCell') = true := by
  unfold FT at H
  cases inn with
  | true =>
    rw [if_pos rfl] at H
    obtain ⟨x, H⟩ := H.oN
    exact H.flat.fact.1.2.2.2
  | false =>
    rw [if_neg (by decide)] at H
    exact H.fact.1
theorem V.IW {hl : List tu} {c : oQ} {u : List Value} (H : V w0 w F) (hu : (u.all fun x => x.oneCell') = true) : V w0 w (FT false hl c u • F) := by
  unfold FT
  rw [if_neg (by decide)]
  exact H.mW hu
theorem V.ai8 {hl : List tu} {c : oQ} {u : List Value} (H : V w0 w (FT true hl c u • F)) : ∃ pb pk wv nv pv gv A, u = JA pb pk wv nv pv gv hl c ∧ Jw A = c.un ∧ yj hl A ∧ (u.all fun x => x.oneCell') = true ∧
    V w0 w (qY pb c.L c.pt c.mark • oZ pk c.E c.at_ • yT 1 wv (hl.length + 1) (strs (qU hl)) • Row 9 1 nv (hl.length + 1) (strs (yR hl c.tx)) • pF .i64 pv (A.map (·.1)) • yT 1 gv A.length (A.map (·.2.1)) • uM A • F) := by
  unfold FT at H
  rw [if_pos rfl] at H
  obtain ⟨⟨pb, pk, wv, nv, pv, gv, A⟩, H⟩ := H.oN
  obtain ⟨⟨h1, h2, h3, h4⟩, H⟩ := H.flat.fact
  exact ⟨pb, pk, wv, nv, pv, gv, A, h1, h2, h3, h4, H.of_eq (by simp only [dH])⟩
theorem V.adM {hl : List tu} {c : oQ} {pb pk : Nat} {wv nv pv gv : Value} {A : List LE} (h2 : Jw A = c.un) (h3 : yj hl A) (H : V w0 w (qY pb c.L c.pt c.mark • oZ pk c.E c.at_ • yT 1 wv (hl.length + 1) (strs (qU hl)) • Row 9 1 nv (hl.length + 1) (strs (yR hl c.tx)) • pF .i64 pv (A.map (·.1)) • yT 1 gv A.length (A.map (·.2.1)) • uM A • F)) : V w0 w (FT true hl c (JA pb pk wv nv pv gv hl c) • F) := by
  have o1 := (H.f3).su.one
  have o2 := (H.f4).aP.one
  have o3 := (H.f5).kD.one
  have o4 := (H.f6).su.one
  have hu : ((JA pb pk wv nv pv gv hl c).all fun x => x.oneCell') = true := by
    unfold JA
    simp only [List.all_cons, List.all_nil, o1, o2, o3, o4, Bool.and_true, Bool.true_and]
    rfl
  unfold FT
  rw [if_pos rfl]
  exact V.jV ⟨pb, pk, wv, nv, pv, gv, A⟩ (V.deep (V.mW ⟨rfl, h2, h3, hu⟩ (H.of_eq (by simp only [dH]))))
end
section
variable {s : bF} {es : List fM} {A : List LE} {yf yt : Int}
theorem kK.nZ (h : kK s es A yf yt) (L : List Int) (p m : Int) : kK (s.nZ L p m) es A yf yt := ⟨zX h.ok _ _ _, h.rx, h.says, h.Jw, h.placed, h.Ut⟩
theorem kK.begin (h : kK s es A yf yt) (hi : s.inn = false) : kK s.bH [] A 0 0 := by
  have h1 := Ud h.ok hi
  have h0 := h.rx.1
  have hl := h.Jw
  have hq := h.placed
  rw [uo hi] at h1 ⊢
  exact ⟨h1, ⟨h0, fun _ => ⟨h0, rfl, fun _ => ⟨rfl, rfl⟩⟩, fun _ h2 => absurd h2 (by show ¬ (0 : Int) = 2; decide)⟩, rfl, hl, hq, fun _ h2 => absurd h2 (by show ¬ false = true; decide)⟩
theorem Qn {c : oQ} (h : IV c) {k : Int} {G : List (List jl)} (h1 : ig G [] ≤ 16384) (h2 : ∀ g ∈ G, g ≠ []) : IV { c with un := xk c.un k G } := by
  refine ⟨fun j => ?_, h.2⟩
  show ig (xk c.un k G j) [] ≤ 16384 ∧ ∀ g ∈ xk c.un k G j, g ≠ []
  by_cases hj : j = k
  · subst hj; rw [iL]; exact ⟨h1, h2⟩
  · rw [xq _ _ hj]; exact h.1 j
theorem kK.more (h : kK s es A yf yt) (hin : s.inn = true) {x : jl} {e : fM} (he : e.says = x) (hx : 0 < x.2.1.length + x.2.2.length) (hok : zA x) (hf : ¬ 16384 ≤ ig s.here s.put) : kK (s.qR x) (es ++ [e]) A yf yt := by
  have h1 := Rn (x := x) h.ok (fun _ => hok)
  rw [Fh hx hf] at h1 ⊢
  exact ⟨h1, ⟨h.rx.1, h.rx.2.1, h.rx.2.2⟩, by rw [List.map_append, h.says, ← he]; rfl, h.Jw, h.placed, h.Ut⟩
theorem kK.none (h : kK s es A yf yt) {x : jl} (hx : x.2.1.length + x.2.2.length = 0) : kK (s.qR x) es A yf yt := by rw [Ik hx]; exact h
theorem IX (h : nT s) (hx : IV s.c) (hp : s.put ≠ []) (on : Bool) : ig (s.iO on) [] ≤ 16384 ∧ (∀ g ∈ s.iO on, g ≠ []) ∧ ∀ g ∈ s.iO on, ∀ e ∈ g, zA e := by
  obtain ⟨h1, h2, h3, h4, h5, h6⟩ := h
  have hs := qF s.here s.put
  have hne := (hx.1 s.c.place).2
  have h6' : ∀ g ∈ s.here, ∀ e ∈ g, zA e := h6 s.c.place
  have key : ∀ (G : List (List jl)) (g : List jl), ig (G ++ [g]) [] ≤ ig s.here s.put → (∀ x ∈ G, x ∈ s.here) → (∀ e ∈ g, zA e) → g ≠ [] →
      ig (G ++ [g]) [] ≤ 16384 ∧ (∀ x ∈ G ++ [g], x ≠ []) ∧ ∀ x ∈ G ++ [g], ∀ e ∈ x, zA e := by
    intro G g a1 a2 a3 a4
    refine ⟨by omega, fun x hx => ?_, fun x hx => ?_⟩
    · rcases List.mem_append.1 hx with hx | hx
      · exact hne x (a2 x hx)
      · rw [List.mem_singleton.1 hx]; exact a4
    · rcases List.mem_append.1 hx with hx | hx
      · exact h6' x (a2 x hx)
      · rw [List.mem_singleton.1 hx]; exact a3
  unfold bF.iO
  rw [if_neg hp]
  cases on with
  | false =>
    rw [if_neg (by decide)]
    exact key s.here s.put (by rw [Io]; omega) (fun x hx => hx) h4 hp
  | true =>
    rw [if_pos rfl]
    by_cases h0 : s.here = []
    · rw [h0]
      exact key [] s.put (by rw [Io, aa2]; omega) (fun x hx => by cases hx) h4 hp
    · rw [List.getLast?_eq_some_getLast h0]
      have hd := Il h0
      have h2 : s.here.getLastD [] = s.here.getLast h0 := by rw [List.getLastD_eq_getLast?, List.getLast?_eq_some_getLast h0]; rfl
      rw [h2] at hd
      refine key s.here.dropLast (s.here.getLast h0 ++ s.put) ?_ (fun x hx => List.dropLast_subset _ hx) (fun e he => ?_) (fun he => hp (List.append_eq_nil_iff.1 he).2)
      · rw [Io, List.length_append, hs]
        unfold ig
        simp only [List.length_nil, Nat.add_zero]
        omega
      · rcases List.mem_append.1 he with he | he
        · exact h6' _ (List.getLast_mem h0) e he
        · exact h4 e he
theorem Qo (h : nT s) (hx : IV s.c) (on : Bool) : nT (s.dQ on) := by
  by_cases hp : s.put = []
  · rw [Dq hp]; exact h
  · obtain ⟨f1, f2, f3⟩ := IX h hx hp on
    rw [nJ hp]
    obtain ⟨h1, h2, h3, h4, h5, h6⟩ := h
    refine ⟨h1, h2, h3, by simp, ?_, fun k g hg => ?_⟩
    · show ig (xk s.c.un s.c.place (s.iO on) s.c.place) [] ≤ 16384
      rw [iL]; exact f1
    · have hg' : g ∈ xk s.c.un s.c.place (s.iO on) k := hg
      by_cases hk : k = s.c.place
      · subst hk; rw [iL] at hg'; exact f3 g hg'
      · rw [xq _ _ hk] at hg'; exact h6 k g hg'
theorem Qp (h : nT s) (hx : RX s) (on : Bool) : RX (s.dQ on) := by
  by_cases hp : s.put = []
  · rw [Dq hp]; exact hx
  · obtain ⟨f1, f2, f3⟩ := IX h hx.1 hp on
    rw [nJ hp]
    exact ⟨Qn hx.1 f1 f2, hx.2.1, hx.2.2⟩
theorem kK.flush (h : kK s es A yf yt) {A' : List LE} (on : Bool) (hp : s.put ≠ []) (hA : _root_.Go.Proofs.YtpdeedplgmbopaaGreatDoor.Jw A' = xk s.c.un s.c.place (s.iO on)) (hP : yj s.hl A') : kK (s.dQ on) [] A' yf yt := by
  have h1 := Qo h.ok h.rx.1 on
  have h2 := Qp h.ok h.rx on
  rw [nJ hp] at h1 h2 ⊢
  exact ⟨h1, h2, rfl, hA, hP, h.Ut⟩
theorem kK.sub (h : kK s es A yf yt) {G : List (List jl)} {A' : List LE} (h1 : ig G s.put ≤ ig s.here s.put) (h2 : ∀ g ∈ G, g ∈ s.here) (hA : _root_.Go.Proofs.YtpdeedplgmbopaaGreatDoor.Jw A' = xk s.c.un s.c.place G) (hP : yj s.hl A') : kK (s.lY G) es A' yf yt := by
  have ht := (h.rx.1.1 s.c.place).1
  have he : ig s.here s.put = ig s.here [] + s.put.length := qF _ _
  have hg : ig G s.put = ig G [] + s.put.length := qF _ _
  have hh : ig s.here [] ≤ 16384 := ht
  exact ⟨afg h.ok h1 h2, ⟨Qn h.rx.1 (by omega) (fun g hg => (h.rx.1.1 s.c.place).2 g (h2 g hg)), h.rx.2.1, h.rx.2.2⟩, h.says, hA, hP, h.Ut⟩
theorem ZN (h : IV s.c) : s.here.length ≤ 16384 := by
  have h1 := (h.1 s.c.place).1
  have h2 := (h.1 s.c.place).2
  have key : ∀ G : List (List jl), (∀ g ∈ G, g ≠ []) → G.length ≤ (G.map List.length).sum := by
    intro G hG
    induction G with
    | nil => simp
    | cons g r ih =>
      have := ih (fun x hx => hG x (List.mem_cons_of_mem _ hx))
      have h3 : 0 < g.length := List.length_pos_iff.2 (hG g (List.mem_cons_self ..))
      simp only [List.length_cons, List.map_cons, List.sum_cons]
      omega
  have h4 := key (s.c.un s.c.place) h2
  unfold ig at h1
  simp only [List.length_nil, Nat.add_zero] at h1
  exact Nat.le_trans h4 h1
theorem Xy {hl : List tu} {A : List LE} {k : Int} {u : Value} {gs : List (Value × List fM)} (h : yj hl A) (hk : 0 ≤ k ∧ k ≤ hl.length) : yj hl (CX A k u gs) := adK h hk
end
end Go.Proofs.YtpdeedplgmbopaaGreatDoor
end
section
namespace Go.Proofs.YtpdeedplgmbopaaGreatDoor
open Go.RowKit
open _root_.Go.Proofs.Tryz
theorem RY {A : List LE} {i : Nat} (h : i < A.length) : (A.map (·.1)).getD i 0 = (A.getD i default).1 := by simp [List.getD_eq_getElem?_getD, h]
theorem YD {A : List LE} {i : Nat} (h : i < A.length) : (A.map (·.2.1)).getD i undef = (A.getD i default).2.1 := by simp [List.getD_eq_getElem?_getD, h]
theorem Qq {A : List LE} {p : LE → Bool} {i : Nat} (h : i < A.length) : (A.take (i + 1)).filter p = (A.take i).filter p ++ (if p (A.getD i default) then [A.getD i default] else []) := by
  rw [List.take_succ_eq_append_getElem h, List.filter_append, List.getD_eq_getElem?_getD, List.getElem?_eq_getElem h]
  simp only [Option.getD_some, List.filter_cons, List.filter_nil]
section
variable {w0 w : World} {F : HP} {y : Nat} {k : Int} {pv gv u : Value} {A : List LE} {gs : List (Value × List fM)}
theorem Xz {x0 x1 x2 x3 x4 x5 x6 x9 x10 x11 x12 y7 x14 x15 x16 x17 x18 x19 x20 x21 zV x23 x24 x25 Ak x27 x28 x29 x30 x31 x32 Bh x34 SN SQ SS x38 x39 x40 x41 : Value} (H : V w0 w (eP y (.cells (x0 :: x1 :: x2 :: x3 :: x4 :: x5 :: x6 :: pv :: gv :: x9 :: x10 :: x11 :: x12 :: y7 :: x14 :: x15 :: x16 :: x17 :: x18 :: x19 :: x20 :: x21 :: zV :: x23 :: x24 :: x25 :: Ak :: x27 :: x28 :: x29 :: x30 :: x31 :: x32 :: Bh :: x34 :: SN :: SQ :: SS :: x38 :: x39 :: x40 :: x41 :: []).toArray 174 (0, 0)) • pF .i64 pv (A.map (·.1)) • yT 1 gv A.length (A.map (·.2.1)) • uM A • F)) : iQ prog 155 #[.pointer (some ⟨y, 7, none⟩), .int .i64 k] w fun v' w' => ∃ gs, ES gs = Jw A k ∧
  V w0 w' (yT 1 v' gs.length (gs.map (·.1)) • qP gs • eP y (.cells (x0 :: x1 :: x2 :: x3 :: x4 :: x5 :: x6 :: pv :: gv :: x9 :: x10 :: x11 :: x12 :: y7 :: x14 :: x15 :: x16 :: x17 :: x18 :: x19 :: x20 :: x21 :: zV :: x23 :: x24 :: x25 :: Ak :: x27 :: x28 :: x29 :: x30 :: x31 :: x32 :: Bh :: x34 :: SN :: SQ :: SS :: x38 :: x39 :: x40 :: x41 :: []).toArray 174 (0, 0)) • pF .i64 pv (A.map (·.1)) • yT 1 gv A.length (A.map (·.2.1)) • uM A • F) := by
 have hpl : (A.map (·.1)).length = A.length := List.length_map _
 have hcap : (A.length : Int) ≤ 9223372036854775807 := by obtain ⟨_, a, c, _, h2, h3, _⟩ := (H.f3).su; omega
 refine qc func155 ntmps155 ?_
 refine ku O (aI (ku O (bf ?_)))
 refine iC [(0, _), (1, _)] (fun (i : Nat) => [(5, .int .i64 (i : Int))]) (fun (i : Nat) W => (i ≤ A.length ∧ ∀ j, j < i → (A.getD j default).1 ≠ k) ∧ V w0 W (eP y (.cells (x0 :: x1 :: x2 :: x3 :: x4 :: x5 :: x6 :: pv :: gv :: x9 :: x10 :: x11 :: x12 :: y7 :: x14 :: x15 :: x16 :: x17 :: x18 :: x19 :: x20 :: x21 :: zV :: x23 :: x24 :: x25 :: Ak :: x27 :: x28 :: x29 :: x30 :: x31 :: x32 :: Bh :: x34 :: SN :: SQ :: SS :: x38 :: x39 :: x40 :: x41 :: []).toArray 174 (0, 0)) • pF .i64 pv (A.map (·.1)) • yT 1 gv A.length (A.map (·.2.1)) • uM A • F)) (fun (i : Nat) => A.length - i) (0) uh mO ⟨⟨by omega, fun j hj => by omega⟩, H.f4.f4.f4.f4⟩ ?_
 rintro i w1 ⟨⟨hi, hne⟩, HL⟩
 dsimp only [List.cons_append, List.nil_append]
 refine aI (bM O (oq O O (bI 0 kZ O sizeOf167 O (fC jq O (HL).get.2 O (aQ (iT ((HL.f2).kD) jq O) (aQ (gW O O) (jr O (fun h1 => ?_) (fun h1 => ?_))))))))
 ·(try simp only [Z] at h1)
  refine fV (aI (bf (aI ?_)))
  have hil : i < A.length := by omega
  refine aB (oq O O (bI 0 kZ O sizeOf167 O (fC jq O (HL).get.2 O (bJ O ?_))))
  obtain ⟨bpv, opv, cpv, epv⟩ := fJ.rW ((HL.f2).kD) (by omega)
  cases epv
  refine aQ (dM jq ay O O (by omega)) ?_
  refine aQ (fF (dA aC O) O (by first | exact fJ.lX ((HL.f2).kD) (by omega) | exact fJ.xJ ((HL.f2).kD) (by omega) | exact fJ.xH ((HL.f2).kD) (by omega))) ?_
  rw [RY hil]
  refine bJ O (aQ (eF O O) (jr O (fun h2 => ?_) (fun h2 => ?_)))
  ·(try simp only [Z] at h2)
   have hek : (A.getD i default).1 = k := h2
   refine bM O (dK O (bI 1 kZ O sizeOf168 O (fC nO O (HL).get.2 O (bJ O ?_))))
   obtain ⟨bgv, ogv, cgv, egv⟩ := Rd.rW ((HL.f3).su) (by omega)
   cases egv
   refine aQ (dM nO iF O O (by omega)) ?_
   refine aQ (fF (dA bQ O) O (by first | exact Rd.lX ((HL.f3).su) (by omega) | exact Rd.xJ ((HL.f3).su) (by omega) | exact Rd.xH ((HL.f3).su) (by omega))) ?_
   rw [YD hil]
   have hat := afP hil hne hek
   obtain ⟨xp, xv, xgs, hx⟩ : ∃ xp xv xgs, A.getD i default = (xp, xv, xgs) := ⟨_, _, _, rfl⟩
   rw [hx] at hat ⊢
   dsimp only at hat ⊢
   have Ho2 := HL.f4
   have Hc3 := Ho2.YC hil hx
   refine fA O (aU (aA (aA (aU (aA (dI results155 O ?_))))))
   exact ⟨xgs, hat.symm, Hc3.f3.f6.f6.f6.f6.f6⟩
  ·(try simp only [Z] at h2)
   have hni : (A.getD i default).1 ≠ k := h2
   refine dh (aH (aX (aB (bJ O (aQ (fQ O O (by omega)) (gU O (bZ ?_)))))))
   refine dX (i + 1) ?_ ?_ ?_ ?_
   ·exact mO
   ·exact uh
   ·(try dsimp only)
    first | done | exact ⟨⟨by omega, fun j hj => (show j < i ∨ j = i from by omega).elim (hne j) (fun c => c ▸ hni)⟩, HL.f4.f4.f4.f4⟩
   ·(try dsimp only); omega
 ·(try simp only [Z] at h1)
  refine dR (aO (aO (bG (aX (aI ?_)))))
  obtain rfl : i = A.length := by omega
  refine aB (fA O (dI results155 O ?_))
  exact ⟨[], by rw [acb hne]; rfl, ((HL.f4.f4.f4.f4).adL none).YB⟩
theorem U9 {x0 x1 x2 x3 x4 x5 x6 x9 x10 x11 x12 y7 x14 x15 x16 x17 x18 x19 x20 x21 zV x23 x24 x25 Ak x27 x28 x29 x30 x31 x32 Bh x34 SN SQ SS x38 x39 x40 x41 : Value} (H : V w0 w (eP y (.cells (x0 :: x1 :: x2 :: x3 :: x4 :: x5 :: x6 :: pv :: gv :: x9 :: x10 :: x11 :: x12 :: y7 :: x14 :: x15 :: x16 :: x17 :: x18 :: x19 :: x20 :: x21 :: zV :: x23 :: x24 :: x25 :: Ak :: x27 :: x28 :: x29 :: x30 :: x31 :: x32 :: Bh :: x34 :: SN :: SQ :: SS :: x38 :: x39 :: x40 :: x41 :: []).toArray 174 (0, 0)) • pF .i64 pv (A.map (·.1)) • yT 1 gv A.length (A.map (·.2.1)) • uM A • yT 1 u gs.length (gs.map (·.1)) • qP gs • F)) (hA : A.length ≤ 4097) : iQ prog 156 #[.pointer (some ⟨y, 7, none⟩), .int .i64 k, u] w fun _ w' => ∃ pv' gv',
  V w0 w' (eP y (.cells (x0 :: x1 :: x2 :: x3 :: x4 :: x5 :: x6 :: pv' :: gv' :: x9 :: x10 :: x11 :: x12 :: y7 :: x14 :: x15 :: x16 :: x17 :: x18 :: x19 :: x20 :: x21 :: zV :: x23 :: x24 :: x25 :: Ak :: x27 :: x28 :: x29 :: x30 :: x31 :: x32 :: Bh :: x34 :: SN :: SQ :: SS :: x38 :: x39 :: x40 :: x41 :: []).toArray 174 (0, 0)) • pF .i64 pv' ((CX A k u gs).map (·.1)) • yT 1 gv' (CX A k u gs).length ((CX A k u gs).map (·.2.1)) • uM (CX A k u gs) • F) := by
 have hpl : (A.map (·.1)).length = A.length := List.length_map _
 have hfl : ∀ i, ((A.take i).filter fun x => x.1 != k).length ≤ A.length := fun i => Nat.le_trans (List.length_filter_le _ _) (by rw [List.length_take]; omega)
 have ahD : ∀ i, (((A.take i).filter fun x => x.1 != k).map (·.1)).length = ((A.take i).filter fun x => x.1 != k).length := fun i => List.length_map _
 refine zk func156 ntmps156 ?_
 refine ku O (ku O (aI (ku O (bf ?_))))
 refine iC [(0, _), (1, _), (2, _)] (fun (⟨i, u1, u2⟩ : Nat × Value × Value) => [(6, u1), (7, u2), (8, .int .i64 (i : Int))]) (fun (⟨i, u1, u2⟩ : Nat × Value × Value) W => i ≤ A.length ∧ V w0 W (jw 3 .i64 u1 (((A.take i).filter fun x => x.1 != k).map (·.1)) • Row 226 1 u2 ((A.take i).filter fun x => x.1 != k).length (((A.take i).filter fun x => x.1 != k).map (·.2.1)) • eP y (.cells (x0 :: x1 :: x2 :: x3 :: x4 :: x5 :: x6 :: pv :: gv :: x9 :: x10 :: x11 :: x12 :: y7 :: x14 :: x15 :: x16 :: x17 :: x18 :: x19 :: x20 :: x21 :: zV :: x23 :: x24 :: x25 :: Ak :: x27 :: x28 :: x29 :: x30 :: x31 :: x32 :: Bh :: x34 :: SN :: SQ :: SS :: x38 :: x39 :: x40 :: x41 :: []).toArray 174 (0, 0)) • pF .i64 pv (A.map (·.1)) • yT 1 gv A.length (A.map (·.2.1)) • uM A • yT 1 u gs.length (gs.map (·.1)) • qP gs • F)) (fun (⟨i, u1, u2⟩ : Nat × Value × Value) => A.length - i) ((0, .slice none 0 0, .slice none 0 0)) vC vC ⟨by omega, ((H.f6.f6.f6.f6.f6.f6).jO (e := 226) (sz := 1) none).jO none⟩ ?_
 rintro ⟨i, u1, u2⟩ w1 ⟨hi, HL⟩
 dsimp only [List.cons_append, List.nil_append]
 refine aI (bM O (oq O O (bI 0 kZ O sizeOf167 O (fC jq O (HL.f3).get.2 O (aQ (iT ((HL.f4).kD) jq O) (aQ (gW O O) (jr O (fun h1 => ?_) (fun h1 => ?_))))))))
 ·(try simp only [Z] at h1)
  refine fV (aI (bf (aI ?_)))
  have hil : i < A.length := by omega
  have hfi := hfl i
  have ahE := ahD i
  obtain ⟨xp, xv, xgs, hx⟩ : ∃ xp xv xgs, A.getD i default = (xp, xv, xgs) := ⟨_, _, _, rfl⟩
  refine aB (oq O O (bI 0 kZ O sizeOf167 O (fC jq O (HL.f3).get.2 O (bJ O ?_))))
  obtain ⟨bpv, opv, cpv, epv⟩ := fJ.rW ((HL.f4).kD) (by omega)
  cases epv
  refine aQ (dM jq ay O O (by omega)) ?_
  refine aQ (fF (dA aC O) O (by first | exact fJ.lX ((HL.f4).kD) (by omega) | exact fJ.xJ ((HL.f4).kD) (by omega) | exact fJ.xH ((HL.f4).kD) (by omega))) ?_
  rw [RY hil, hx]
  dsimp only
  refine bJ O (aQ (gY O O) (jr O (fun h2 => ?_) (fun h2 => ?_)))
  ·(try simp only [Z] at h2)
   have hne : ¬ xp = k := h2
   refine bM O (oq O O (bI 0 kZ O sizeOf167 O (fC jq O (HL.f3).get.2 O (bJ O (aQ (dM jq ay O O (by omega)) ?_)))))
   refine aQ (fF (dA aC O) O (by first | exact fJ.lX ((HL.f4).kD) (by omega) | exact fJ.xJ ((HL.f4).kD) (by omega) | exact fJ.xH ((HL.f4).kD) (by omega))) ?_
   rw [RY hil, hx]
   dsimp only
   refine kF (mM (k := .i64) (l := [_]) HL jq ay zeroValue3 O O O (by decide)) ?_
   rintro l2 w2 H2
   refine kF (lJ H2.f2 ((H2).aP) jq ahF O O (by first | omega | (simp only [List.length_append, List.length_nil, List.length_cons]; omega) | (simp; omega)) (by first | omega | (simp only [List.length_append, List.length_nil, List.length_cons]; omega) | (simp; omega))) ?_
   rintro l3 w3 H3
   try simp only [List.nil_append] at H3
   refine dZ O (aB (jX O O (dK O (bI 1 kZ O sizeOf168 O (fC nO O (H3.f4).get.2 O (bJ O ?_))))))
   obtain ⟨bgv, ogv, cgv, egv⟩ := Rd.rW ((H3.f6).su) (by omega)
   cases egv
   refine aQ (dM nO iF O O (by omega)) ?_
   refine aQ (fF (dA bQ O) O (by first | exact Rd.lX ((H3.f6).su) (by omega) | exact Rd.xJ ((H3.f6).su) (by omega) | exact Rd.xH ((H3.f6).su) (by omega))) ?_
   rw [YD hil, hx]
   dsimp only
   have TA := H3.f7
   have SA := TA.YC hil hx
   refine kF (lW (vs := [_]) SA nO iF zeroValue226 O O O (by decide) (bg (by first | rfl | exact Rd.one ((SA).su)) bW)) ?_
   rintro l6 w6 H6
   refine kF (iY H6.f7 nO aci O O O ((H6).aP) (bg (by first | rfl | exact Rd.one ((H6.f2).su)) bW) (by omega) (by omega)) ?_
   rintro l7 w7 H7
   have Hd8 := H7.f2.right
   refine gU O (bZ (aH (aX (aB (bJ O (aQ (fQ O O (by omega)) (gU O (bZ ?_))))))))
   refine dX ((i + 1, l3, l7)) ?_ ?_ ?_ ?_
   ·exact vC
   ·exact vC
   ·(try dsimp only)
    first | done | exact ⟨by omega, by rw [Qq hil, hx]; dsimp only; first | (rw [if_pos (by simpa using hne)]; simp only [List.map_append, List.length_append]; exact Hd8.f2.right.f2.right.f4.right.f8.f8.f4.f8.f8.f8.f7.f8) | (rw [if_neg (by simpa using heq), List.append_nil]; exact Hd8.f2.right.f2.right.f4.right.f8.f8.f4.f8.f8.f8.f7.f8)⟩
   ·(try dsimp only); omega
  ·(try simp only [Z] at h2)
   have heq : xp = k := by have h9 := h2; omega
   refine dh (aH (aX (aB (bJ O (aQ (fQ O O (by omega)) (gU O (bZ ?_)))))))
   refine dX ((i + 1, u1, u2)) ?_ ?_ ?_ ?_
   ·exact vC
   ·exact vC
   ·(try dsimp only)
    first | done | exact ⟨by omega, by rw [Qq hil, hx]; dsimp only; first | (rw [if_pos (by simpa using hne)]; simp only [List.map_append, List.length_append]; exact HL.f8.f8.f8.f8.f8.f8.f8.f8) | (rw [if_neg (by simpa using heq), List.append_nil]; exact HL.f8.f8.f8.f8.f8.f8.f8.f8)⟩
   ·(try dsimp only); omega
 ·(try simp only [Z] at h1)
  refine dR (aO (aO (bG (aX ?_))))
  obtain rfl : i = A.length := by omega
  have HX := HL
  rw [List.take_length] at HX
  have hfi := hfl A.length
  have ahE := ahD A.length
  rw [List.take_length] at hfi ahE
  refine aB (jX O O (jX O O (kF (mM (k := .i64) (l := [_]) HX jq ay zeroValue3 O O O (by decide)) ?_)))
  rintro l9 w9 H9
  refine kF (lJ H9.f2 ((H9).aP) jq ahF O O (by first | omega | (simp only [List.length_append, List.length_nil, List.length_cons]; omega) | (simp; omega)) (by first | omega | (simp only [List.length_append, List.length_nil, List.length_cons]; omega) | (simp; omega))) ?_
  rintro l10 w10 pz
  try simp only [List.nil_append] at pz
  refine jX O O (kF (lW (vs := [_]) pz nO iF zeroValue226 O O O (by decide) (bg (by first | rfl | exact Rd.one ((pz.f8).su)) bW)) ?_)
  rintro l11 FM rY
  refine kF (iY rY.f4 nO aci O O O ((rY).aP) (bg (by first | rfl | exact Rd.one ((rY.f9).su)) bW) (by omega) (by omega)) ?_
  rintro l12 w12 vM
  have ahG := vM.f2.right
  refine dK O (bI 0 kZ O sizeOf167 O (aJ (gB 7 (l' := [_, _, _, _, _, _, _, _, _, _, _, _, _, _, _, _, _, _, _, _, _, _, _, _, _, _, _, _, _, _, _, _, _, _, _, _, _, _, _, _, _, _]) ahG.f4 sizeOf167 O O (by first | rfl | exact Rd.one ((ahG.f2).aP)) O O) ?_))
  rintro _ Pz yF
  refine dK O (bI 1 kZ O sizeOf168 O (aJ (gB 8 (l' := [_, _, _, _, _, _, _, _, _, _, _, _, _, _, _, _, _, _, _, _, _, _, _, _, _, _, _, _, _, _, _, _, _, _, _, _, _, _, _, _, _, _]) yF sizeOf168 O O (by first | rfl | exact Rd.one ((yF.f2).aP)) O O) ?_))
  rintro _ QI yA
  refine bZ (mX (.inr O) results156 ?_)
  have hs1 : (CX A k u gs).map (·.1) = (A.filter fun x => x.1 != k).map (·.1) ++ [k] := by unfold CX; rw [List.map_append]; rfl
  have hs2 : (CX A k u gs).map (·.2.1) = (A.filter fun x => x.1 != k).map (·.2.1) ++ [u] := by unfold CX; rw [List.map_append]; rfl
  have hs3 : (CX A k u gs).length = (A.filter fun x => x.1 != k).length + 1 := by unfold CX; rw [List.length_append]; rfl
  have HQ := (yA.f4.right.f4.right.f4.right.f2.f3.f6.f6.f6).ace (p := k) |>.f2.mY.f3.Jy.f4.f3.f2
  exact ⟨_, _, by rw [hs1, hs2, hs3]; exact HQ⟩
end
section
variable {w0 w : World} {F : HP} {y : Nat} {s : bF} {x : Int} {b : Bool}
theorem RZ (H : V w0 w (sH y s • F)) : iQ prog 63 #[.pointer (some ⟨y, 0, none⟩), .int .i64 x] w fun v w' => v = .int .i64 (s.vU x) ∧ V w0 w' (sH y (s.vV x) • F) := by
 refine qc func63 ntmps63 ?_
 refine ku O (aI (aI ?_))
 obtain ⟨h_y, OM, OO, OQ, OT, ZO, ZP, A_y, ZQ, ZR, Va, Vb, Vd, OU, OV, OW, OX, OY, OZ, O4, O5, O6, O7, O8, O9, tY, GX, y5⟩ := (H).U8
 refine aB (oq O O (bI 32 aT O aS O (fC cZ O (y5).get.2 O (aQ (kG O) (jm O (fun h1 => ?_) (fun h1 => ?_))))))
 ·(try simp only [Z] at h1)
  refine bn (bn (je O O (bJ O (bn (bn (je O O (iE (C9 (kC O (aA (dI results63 O ?_)))))))))))
  have hd : s.vU x = 1 := by
   unfold bF.vU
   by_cases hin : s.inn = true
   ·rw [if_pos hin, if_pos (by first | omega | (exfalso; simp_all))]
   ·rw [if_neg hin]
  have V6 := y5.f12.f12.f12.f12.f12.f12.f12.f12.f12.f12.f12.f12
  have XQ := V.xE (s := s) tY V6
  exact ⟨by rw [hd], by unfold bF.vV; rw [if_neg (by rw [hd]; decide)]; exact XQ⟩
 ·(try simp only [Z] at h1)
  refine aY (bJ O (aY (aQ (gW O O) (fG O O (jm O (fun h2 => ?_) (fun h2 => ?_))))))
  ·(try simp only [Z] at h2)
   refine bn (bn (je O O (iE (C9 (kC O (aA (dI results63 O ?_)))))))
   have hd : s.vU x = 1 := by
    unfold bF.vU
    by_cases hin : s.inn = true
    ·rw [if_pos hin, if_pos (by first | omega | (exfalso; simp_all))]
    ·rw [if_neg hin]
   have Ho6 := y5.f12.f12.f12.f12.f12.f12.f12.f12.f12.f12.f12.f12
   have Hc7 := V.xE (s := s) tY Ho6
   exact ⟨by rw [hd], by unfold bF.vV; rw [if_neg (by rw [hd]; decide)]; exact Hc7⟩
  ·(try simp only [Z] at h2)
   refine aY (bJ O (aY (aQ (eX O O) (fG O O (jr O (fun h3 => ?_) (fun h3 => ?_))))))
   ·(try simp only [Z] at h3)
    refine kC O (aA (dI results63 O ?_))
    have hd : s.vU x = 1 := by
     unfold bF.vU
     by_cases hin : s.inn = true
     ·rw [if_pos hin, if_pos (by first | omega | (exfalso; simp_all))]
     ·rw [if_neg hin]
    have Ho9 := y5.f12.f12.f12.f12.f12.f12.f12.f12.f12.f12.f12.f12
    have afn := V.xE (s := s) tY Ho9
    exact ⟨by rw [hd], by unfold bF.vV; rw [if_neg (by rw [hd]; decide)]; exact afn⟩
   ·(try simp only [Z] at h3)
    refine fV (aI ?_)
    have hin : s.inn = true := by first | assumption | (simp_all; done)
    have hd : s.vU x = 0 := by unfold bF.vU; rw [if_pos hin, if_neg (by omega)]
    refine aB (jX O O (dK O (bI 1 aT O gV O (bI 8 dO O ay O (aJ (nX 9 y5 ay) ?_)))))
    rintro _ FM rY
    refine iE (kC O (dI results63 O ?_))
    rw [hd]
    refine ⟨O, ?_⟩
    unfold bF.vV
    rw [if_pos hd]
    exact V.xE (s := { s with c := { s.c with mode := x } }) ⟨tY.ok, tY.rx, tY.says, tY.Jw, tY.placed, tY.Ut⟩ rY.f12.f12.f12.f12.f12.f12.f12.f12.f12.f12.f12.f12
end
end Go.Proofs.YtpdeedplgmbopaaGreatDoor
end
section
namespace Go.Proofs.YtpdeedplgmbopaaGreatDoor
open Go.RowKit
section
variable {w0 w : World} {F : HP} {e h : Nat} {hl : List tu} {base most : Int}
end
section
variable {w0 w : World} {F : HP} {l : List tu} {v : Value}
end
end Go.Proofs.YtpdeedplgmbopaaGreatDoor
end
