import Derived.Test.YtgofgnlkpeghcaaGreatDoorZ4
import Derived.Test.YtgofgnlkpeghcaaGreatDoorZ17
import Derived.Test.YtgofgnlkpeghcaaGreatDoorZ9
import Derived.Test.YtgofgnlkpeghcaaGreatDoorZ8
import Derived.Test.YtgofgnlkpeghcaaGreatDoorZ7
import Derived.Test.YtgofgnlkpeghcaaGreatDoorZ5
set_option linter.unusedSimpArgs false
set_option linter.unusedVariables false
/- Texts of mine, joined, their names in short: RWalk RLs Ref7 Ref7b BufAny Ref7c RefAny RefRing. -/
section
namespace Go.Proofs.YtgofgnlkpeghcaaGreatDoor
open Go.RowKit
open _root_.Go.Proofs.Tryz
def strs (l : List ByteArray) : List Value := l.map Value.string
theorem Ko {l : List ByteArray} : ∀ x ∈ strs l, x.oneCell' = true := by
  intro x hx
  obtain ⟨e, _, rfl⟩ := List.mem_map.1 hx
  rfl
def nP (hl : List oH) : List ByteArray := hl.map (·.1) ++ [.empty]
section
variable {P : Program} {L : List (Nat × Value)} {w0 w : World} {F : HP} {p : Nat} {hl l : List oH} {base most : Int} {v : Value}
theorem Zn {hl : List oH} {k : Nat} (hk : k < hl.length) : strs ((hl.take (k + 1)).map (·.1)) = strs ((hl.take k).map (·.1)) ++ [.string (hl.getD k default).1] := by
  unfold strs
  rw [List.take_succ_eq_append_getElem hk, List.map_append, List.map_append, List.getD_eq_getElem?_getD, List.getElem?_eq_getElem hk]; rfl
theorem P5 (H : V w0 w (iW p hl base most • F)) : iM prog 71 #[.pointer (some ⟨p, 0, none⟩)] w fun v w' => ∃ q ov nv, v = .pointer (some ⟨q, 0, none⟩) ∧
  V w0 w' (eF q (.cells #[ov, nv, .int .i64 hl.length] 89 (0, 0)) • Row 9 1 ov (nP hl).length (strs (nP hl)) • Row 9 1 nv (nP hl).length (strs (nP hl)) • iW p hl base most • F) := by
 refine iQ func71 ntmps71 ?_
 refine kQ O (aO ?_)
 obtain ⟨Pz, vO, xX⟩ := (H).CV
 have hkl := vO.1
 refine aA (mJ O O (bn 0 gY O gW O (fB bM O (xX).get.2 O (aW (fV ((xX.f2).yB) bM O) ?_))))
 refine aW (fA (zl := [.slice none 0 0, .slice none 0 0, .int .i64 0]) (pl := [(0, 1), (1, 1), (2, 1)]) [_, _, _] dB zeroValue89 O (fun w => by kernel_rfl) O (.zero (zs := [.slice none 0 0]) O (.zero (zs := [.slice none 0 0]) O (.on .nil))) O) ?_
 refine iY (jo (l := [_, _, _]) xX O O) ?_
 rintro _ w2 ⟨b2, rfl, H2⟩
 refine sS O (kQ O (bg ?_))
 refine gq [(0, _), (3, _)] (fun (⟨k, u⟩ : Nat × Value) => [(4, .int .i64 (k : Int))]) (fun (⟨k, u⟩ : Nat × Value) W => k ≤ hl.length ∧ V w0 W (eF b2 (.cells #[u, .slice none 0 0, .int .i64 hl.length] 89 (0, 0)) • Row 9 1 u k (strs ((hl.take k).map (·.1))) • eF p (.cells #[Pz, .int .i64 base, .int .i64 most] 84 (0, 0)) • ZR Pz hl • F)) (fun (⟨k, u⟩ : Nat × Value) => hl.length - k) ((0, .slice none 0 0)) rP oO ⟨by omega, (H2.f3.f3.f3).gG none |>.swap⟩ ?_
 rintro ⟨k, u⟩ w3 ⟨hk, HL⟩
 dsimp only [List.cons_append, List.nil_append]
 refine aO (bY O (mJ O O (bn 0 gY O gW O (fB bM O (HL.f3).get.2 O (aW (fV ((HL.f4).yB) bM O) (aW (fG O O) (jv O (fun h1 => ?_) (fun h1 => ?_))))))))
 ·(try simp only [aF] at h1)
  have hkl2 : k < hl.length := by have h9 := h1; omega
  refine iy (aO (bg ?_))
  have aeF := HL.drew
  have CW := V.kp (aeF.f4.f4.f4.f4)
  refine uU [4, 8, 12] CW O (gQ 0 O CW O (gQ 1 O CW O (jQ 2 O CW O (fQ 3 O CW 0 dB O jE O (iO 4 O CW (fun W hW => jT dJ O ((Kp.h hW)).get.2 O) (gQ 5 O CW O (jQ 6 O CW O (fQ 7 O CW 0 gY O gW O (iO 8 O CW (fun W hW => jT bM O ((Kp.h hW).f3).get.2 O) (gQ 9 O CW O ?_))))))))))
  obtain ⟨afW, afX, afY, abp⟩ := Rd.nR ((aeF.f4).yB) (by omega)
  cases abp
  refine iL 10 O CW (fun _ => dD bM jl O O (by omega)) (fQ 11 O CW 0 gX O kG O (iO 12 O CW (fun W hW => EP (eG (dn dU O) O (Rd.atS (((Kp.h hW).f4).yB) (by omega) (by decide))) (Xg hkl2)) (lU 13 O (kU (vs := [_]) aeF dJ kG zeroValue9 O O O (by decide) (aG bK)) ?_)))
  rintro l4 w4 H4
  have uZ := V.kp (H4.f5.f5.f5.f5.f5)
  refine dZ uZ (fun W hW => (Kp.h hW).right.f4.f4.f4.f4) ?_
  refine lU 14 O (eX H4.f3 dJ abJ O O O ((H4).aN) (aG bK) (by omega) (by omega)) ?_
  rintro l5 w5 H5
  have Zm := H5.f2.right
  have wJ := V.kp (Zm.f4.f4.f4.f4)
  refine fH wJ (by kernel_rfl) ?_
  refine jQ 15 O wJ O (fQ 16 O wJ 0 dB O jE O ?_)
  refine gU 17 O (by kernel_rfl) (eY 0 (l' := [_, _, _]) Zm.f2 jE O O (by first | rfl | exact Rd.one ((Zm).aN)) O O) ?_
  rintro _ w7 H7
  have BK := V.kp (H7.f4.f4.f4.f4)
  refine fH BK (by kernel_rfl) ?_
  refine qj (aP (aZ (aA (bT O (aW (fP O O (by omega)) (iC O (bZ ?_)))))))
  refine dN ((k + 1, l5)) ?_ ?_ ?_ ?_
  ·exact oO
  ·exact rP
  ·(try dsimp only)
   first | done | exact ⟨by omega, by rw [Zn hkl2]; exact H7⟩
  ·(try dsimp only); omega
 ·(try simp only [aF] at h1)
  refine eH (aT (aT (bU (aZ (aO ?_)))))
  obtain rfl : k = hl.length := by omega
  refine aA (jy O O (dO O (bn 0 dB O jE O (fB dJ O (HL).get.2 O (iY (kU (vs := [_]) HL dJ kG zeroValue9 O O O (by decide) (aG bK)) ?_)))))
  rintro l8 w8 H8
  refine iY (eX H8.f3 dJ abJ O O O ((H8).aN) (aG bK) (by omega) (by omega)) ?_
  rintro l9 w9 H9
  have agc := H9.f2.right
  refine dO O (bn 0 dB O jE O (aI (eY 0 (l' := [_, _, _]) agc.f2 jE O O (by first | rfl | exact Rd.one ((agc).aN)) O O) ?_))
  rintro _ Iq sG
  have HX := sG
  rw [List.take_length, show strs (hl.map (·.1)) ++ [Value.string { data := #[] }] = strs (nP hl) from by unfold nP strs; rw [List.map_append]; rfl, show hl.length + 1 = (nP hl).length from by simp [nP]] at HX
  have hon := @Ko (nP hl)
  have hol : (nP hl).length = hl.length + 1 := by simp [nP]
  refine ql O (mJ O O (bn 0 dB O jE O (fB dJ O (HX).get.2 O (iY (eX (HX.gG none) dJ abJ O O O ((HX.f2).aN) (by assumption) (by omega) (by omega)) ?_))))
  rintro l12 w12 tN
  refine dO O (bn 1 dB O jE O (aI (eY 1 (l' := [_, _, _]) tN.f2 jE O O (by first | rfl | exact Rd.one ((tN).aN)) O O) ?_))
  rintro _ Qz Ak
  refine ql O (ig O (fD results71 O ?_))
  have aeG := Ak.f5.f5
  have aeH := V.wB vO aeG
  have HQ := aeH.f3.f4.f4
  rw [List.nil_append, Nat.zero_add] at HQ
  exact ⟨_, _, _, O, HQ⟩
end
end Go.Proofs.YtgofgnlkpeghcaaGreatDoor
end
section
namespace Go.Proofs.YtgofgnlkpeghcaaGreatDoor
open Go.RowKit
def uQ (sz : Nat) (v : Value) (n : Nat) (xs : List Value) : HP := know (fun I => Gg I sz v n xs) fun _ _ hl h => h.mono hl
abbrev LE := Int × Value × List (Value × List fJ)
def Dp (gs : List (Value × List fJ)) : List (List kC) := gs.map fun g => g.2.map fJ.says
def EN (A : List LE) (k : Int) : List (List kC) := ((A.find? fun x => x.1 == k).map fun x => Dp x.2.2).getD []
def AQ (A : List LE) (k : Int) (u : Value) (gs : List (Value × List fJ)) : List LE := A.filter (fun x => x.1 != k) ++ [(k, u, gs)]
def GlI (I : Hp) (v : Value) (gs : List (Value × List fJ)) : Prop := Gg I 1 v gs.length (gs.map (·.1)) ∧ G9 I gs
theorem GlI.mono {I I' : Hp} {v : Value} {gs : List (Value × List fJ)} (hl : Hp.le I I') (h : GlI I v gs) : GlI I' v gs := ⟨h.1.mono hl, h.2.mono hl⟩
def glK (v : Value) (gs : List (Value × List fJ)) : HP := uQ 1 v gs.length (gs.map (·.1)) • rQ gs
def acZ (I : Hp) (A : List LE) : Prop := ∀ k, k < A.length → GlI I (A.getD k default).2.1 (A.getD k default).2.2
def tq (A : List LE) : HP := know (fun I => acZ I A) fun _ _ hl h k hk => (h k hk).mono hl
def lsK (pv gv : Value) (A : List LE) : HP := nS .i64 pv (A.map (·.1)) • uQ 1 gv A.length (A.map (·.2.1)) • tq A
theorem SQ (A : List LE) (k : Int) (u : Value) (gs : List (Value × List fJ)) : EN (AQ A k u gs) = sV (EN A) k (Dp gs) := by
  funext j
  unfold EN AQ sV
  rw [List.find?_append]
  by_cases hj : j = k
  · subst hj
    rw [if_pos rfl, List.find?_eq_none.2 (by intro x hx; simp at hx; simpa using hx.2)]
    simp
  · rw [if_neg hj, List.find?_filter]
    have h1 : (fun a : LE => decide (a.1 != k ∧ (a.1 == j) = true)) = fun a : LE => a.1 == j := by
      funext a
      by_cases ha : a.1 = j
      · simp [ha, hj]
      · simp [ha]
    have h2 : (fun a : LE => (a.1 != k) && (a.1 == j)) = fun a : LE => a.1 == j := by
      funext a
      by_cases ha : a.1 = j
      · simp [ha, hj]
      · simp [ha]
    have h3 : ([(k, u, gs)] : List LE).find? (fun x => x.1 == j) = none := by
      rw [List.find?_eq_none]; intro x hx; rw [List.mem_singleton.1 hx]; simpa using Ne.symm hj
    first
      | rw [h3, Option.or_none, h2]
      | rw [h3, Option.or_none, h1]
      | (simp only [h3, Option.or_none, h2, h1])
theorem aeI {A : List LE} {k : Int} {i : Nat} (hi : i < A.length) (hn : ∀ j, j < i → (A.getD j default).1 ≠ k) (he : (A.getD i default).1 = k) : EN A k = Dp (A.getD i default).2.2 := by
  induction A generalizing i with
  | nil => simp at hi
  | cons x r ih =>
    unfold EN
    rw [List.find?_cons]
    cases i with
    | zero =>
      have : x.1 = k := he
      rw [show (x.1 == k) = true from by simpa using this]; rfl
    | succ m =>
      have h0 : x.1 ≠ k := hn 0 (by omega)
      rw [show (x.1 == k) = false from by simpa using h0]
      exact ih (i := m) (by simpa using hi) (fun j hj => hn (j + 1) (by omega)) he
theorem abK {A : List LE} {k : Int} (hn : ∀ j, j < A.length → (A.getD j default).1 ≠ k) : EN A k = [] := by
  unfold EN
  rw [List.find?_eq_none.2]
  · rfl
  · intro x hx
    obtain ⟨j, hj, rfl⟩ := List.getElem_of_mem hx
    have := hn j hj
    rw [List.getD_eq_getElem?_getD, List.getElem?_eq_getElem hj] at this
    simpa using this
theorem QV : ∀ (n : Nat) (l : List Int), l.Nodup → (∀ x ∈ l, 0 ≤ x ∧ x < n) → l.length ≤ n
  | 0, l, _, h => by
    cases l with
    | nil => simp
    | cons x r => have := h x (List.mem_cons_self ..); omega
  | n + 1, l, hn, h => by
    have h1 : (l.erase (n : Int)).length ≤ n := QV n (l.erase n) (hn.erase _) (fun x hx => by
      have hm := (List.Nodup.mem_erase_iff hn).1 hx
      have := h x hm.2
      have := hm.1
      omega)
    have h2 : l.length ≤ (l.erase (n : Int)).length + 1 := by rw [List.length_erase]; split <;> omega
    omega
theorem Ve (A : List LE) (k : Int) (u : Value) (gs : List (Value × List fJ)) : (AQ A k u gs).map (·.1) = (A.map (·.1)).filter (· != k) ++ [k] := by
  unfold AQ
  rw [List.map_append, List.filter_map]; rfl
theorem ac0 {A : List LE} {n : Int} {k : Int} {u : Value} {gs : List (Value × List fJ)} (h : (A.map (·.1)).Nodup ∧ ∀ x ∈ A.map (·.1), 0 ≤ x ∧ x ≤ n) (hk : 0 ≤ k ∧ k ≤ n) :
    ((AQ A k u gs).map (·.1)).Nodup ∧ ∀ x ∈ (AQ A k u gs).map (·.1), 0 ≤ x ∧ x ≤ n := by
  rw [Ve]
  refine ⟨List.nodup_append.2 ⟨h.1.filter _, by simp, fun a ha b hb => ?_⟩, fun x hx => ?_⟩
  · rw [List.mem_singleton.1 hb]
    have := (List.mem_filter.1 ha).2
    simpa using this
  · rcases List.mem_append.1 hx with hx | hx
    · exact h.2 x (List.mem_filter.1 hx).1
    · rw [List.mem_singleton.1 hx]; exact hk
theorem Ib {A : List LE} {n : Int} (h : (A.map (·.1)).Nodup ∧ ∀ x ∈ A.map (·.1), 0 ≤ x ∧ x ≤ n) (hn : 0 ≤ n ∧ n ≤ 4096) : A.length ≤ 4097 := by
  have := QV (n.toNat + 1) _ h.1 (fun x hx => by have := h.2 x hx; omega)
  rw [List.length_map] at this
  omega
section
variable {w0 w : World} {F : HP} {v u pv gv : Value} {n sz k : Nat} {xs : List Value} {es : List fJ} {gs : List (Value × List fJ)} {A : List LE} {x : LE}
theorem V.oD (H : V w0 w (uQ sz v n xs • F)) : Rd w sz v n xs := let ⟨I, h, hI⟩ := H.wC; h.rd hI
theorem V.abL (H : V w0 w (uQ sz v n xs • F)) : V w0 w (uQ sz v n xs • uQ sz v n xs • F) := H.uD
theorem V.Xi (H : V w0 w F) (a : Option Addr) : V w0 w (uQ sz (.slice a 0 0) 0 [] • F) := H.xU fun I => ⟨by simp, a, 0, rfl, by omega, by decide, fun h => by omega⟩
theorem V.Kq {t : TypeId} (H : V w0 w (Row t sz v n xs • F)) : V w0 w (uQ sz v n xs • F) := by
  have hl := H.Ai
  rcases H.xQ with ⟨a, rfl, h1, h2, H1⟩ | ⟨g, o, c, cur, rfl, h2, h3, h4, h5, H1⟩
  · subst h1; exact H1.xU fun I => ⟨hl, a, 0, rfl, by omega, by decide, fun h => by omega⟩
  · exact H1.freeze.F9 (qJ (fun I hI => ⟨hl, _, c, rfl, h2, h3, fun _ => ⟨g, o, cur, _, (0, 0), rfl, hI, h5⟩⟩) F)
theorem V.Vf (H : V w0 w (glK v gs • F)) : V w0 w (uQ 1 v gs.length (gs.map (·.1)) • rQ gs • F) := H.flat
theorem V.Yo (H : V w0 w F) (a : Option Addr) : V w0 w (glK (.slice a 0 0) [] • F) := V.deep (H.NS.Xi (sz := 1) a)
theorem V.Fz (H : V w0 w (He v gs • F)) : V w0 w (glK v gs • F) := V.deep (H.acD.Kq)
theorem V.Yp {p : Int} (H : V w0 w (tq A • F)) (hk : k < A.length) (hx : A.getD k default = (p, v, gs)) : V w0 w (uQ 1 v gs.length (gs.map (·.1)) • rQ gs • tq A • F) := by
  have H2 : V w0 w (uQ 1 (A.getD k default).2.1 (A.getD k default).2.2.length ((A.getD k default).2.2.map (·.1)) • tq A • tq A • F) := H.uD.uD.F9 (qJ (fun I h => (h k hk).1) _)
  have H3 : V w0 w (rQ (A.getD k default).2.2 • uQ 1 (A.getD k default).2.1 (A.getD k default).2.2.length ((A.getD k default).2.2.map (·.1)) • tq A • F) := H2.f2.F9 (qJ (fun I h => (h k hk).2) _)
  rw [hx] at H3
  exact H3.f2
theorem acZ.set {I : Hp} {p : Int} (h : acZ I A) (g : GlI I u gs) : acZ I (AQ A p u gs) := by
  have hm : ∀ x ∈ A, GlI I x.2.1 x.2.2 := fun x hx => by
    obtain ⟨j, hj, rfl⟩ := List.getElem_of_mem hx
    have := h j hj
    rwa [List.getD_eq_getElem?_getD, List.getElem?_eq_getElem hj] at this
  have hm2 : ∀ x ∈ AQ A p u gs, GlI I x.2.1 x.2.2 := fun x hx => by
    rcases List.mem_append.1 hx with hx | hx
    · exact hm x (List.mem_filter.1 hx).1
    · rw [List.mem_singleton.1 hx]; exact g
  intro j hj
  rw [List.getD_eq_getElem?_getD, List.getElem?_eq_getElem hj]
  exact hm2 _ (List.getElem_mem hj)
theorem V.abM {p : Int} (H : V w0 w (tq A • uQ 1 u gs.length (gs.map (·.1)) • rQ gs • F)) : V w0 w (tq (AQ A p u gs) • F) := by
  have H1 : V w0 w (know (fun I => GlI I u gs) (fun _ _ hl h => h.mono hl) • tq A • F) := (H.f3.f3 : V w0 w (uQ 1 u gs.length (gs.map (·.1)) • rQ gs • tq A • F)).F9 (vV (fun I h g => ⟨h, g⟩) _)
  exact H1.f2.F9 (vV (fun I h g => h.set g) _)
theorem V.Vg (H : V w0 w F) : V w0 w (tq [] • F) := H.xU fun I k hk => by simp at hk
theorem V.Vh {k : IntKind} (H : V w0 w F) (a : Option Addr) : V w0 w (nS k (.slice a 0 0) [] • F) := H.xU fun I => ⟨a, 0, rfl, by simp, by decide, fun h => by simp at h⟩
end
end Go.Proofs.YtgofgnlkpeghcaaGreatDoor
end
section
namespace Go.Proofs.YtgofgnlkpeghcaaGreatDoor
open Go.RowKit
open _root_.Go.Proofs.Tryz
def oZ (v : Value) (pt mk : Int) : Array Value := #[v, .int .i64 pt, .int .i64 mk]
theorem lJ {v : Value} {pt mk : Int} : (oZ v pt mk).size = 3 := rfl
theorem vJ {v u : Value} {pt mk : Int} : (oZ v pt mk).setIfInBounds 0 u = oZ u pt mk := rfl
theorem zH {v : Value} {pt mk x : Int} : (oZ v pt mk).setIfInBounds 1 (.int .i64 x) = oZ v x mk := rfl
theorem pY {v : Value} {pt mk x : Int} : (oZ v pt mk).setIfInBounds 2 (.int .i64 x) = oZ v pt x := rfl
def kJ (p : Nat) (L : List Int) (pt mk : Int) : HP := yC fun (v : Value) => fact (L.length ≤ 1024 ∧ (0 ≤ pt ∧ pt ≤ L.length) ∧ (-1 ≤ mk ∧ mk ≤ L.length)) • eF p (.cells (oZ v pt mk) 150 (0, 0)) • jR 21 .i32 v L
section
variable {w0 w : World} {F : HP} {p : Nat} {L : List Int} {pt mk : Int} {v : Value} {l : List Int} {i j : Int}
theorem V.ref (H : V w0 w (kJ p L pt mk • F)) : ∃ (a : Option Addr) (c : Nat), L.length ≤ 1024 ∧ (0 ≤ pt ∧ pt ≤ L.length) ∧ (-1 ≤ mk ∧ mk ≤ L.length) ∧ L.length ≤ c ∧ (c : Int) ≤ 9223372036854775807 ∧
    V w0 w (eF p (.cells (oZ (.slice a L.length c) pt mk) 150 (0, 0)) • jR 21 .i32 (.slice a L.length c) L • F) := by
  obtain ⟨v, H⟩ := H.pO
  obtain ⟨⟨h1, h2, h3⟩, H⟩ := H.flat.fact
  have H := H.flat
  obtain ⟨a, c, hv, hc1, hc2, _⟩ := (H.swap.aN).form
  subst hv
  exact ⟨a, c, h1, h2, h3, hc1, hc2, H⟩
theorem V.qV (h1 : L.length ≤ 1024) (h2 : 0 ≤ pt ∧ pt ≤ L.length) (h3 : -1 ≤ mk ∧ mk ≤ L.length) (H : V w0 w (eF p (.cells (oZ v pt mk) 150 (0, 0)) • jR 21 .i32 v L • F)) : V w0 w (kJ p L pt mk • F) :=
  V.jG v (V.deep (V.oG ⟨h1, h2, h3⟩ (V.deep H)))
theorem SV (H : V w0 w F) (hr : jm w0 F .i32 v l) (hl : 1024 < l.length) : iM prog 69 #[v] w fun v' w' => v' = .tuple #[.pointer none, .int .i64 3] ∧ w = w' := by
  obtain ⟨a, c, rfl, _, _, _⟩ := (hr w H).open
  refine iQ func69 ntmps69 ?_
  refine jw (iC O (sS O (bY O (aW (jS ay O) (aW (iT O O) (jd (wcA O (fun h1 => ?_))))))))
  (try simp only [aF] at h1)
  refine jw (iC O (ig O (aC (Dw results69 O O ?_))))
  exact ⟨O, O⟩
theorem Vj (H : V w0 w F) (hr : jm w0 F .i32 v l) (hl : l.length ≤ 1024) : iM prog 69 #[v] w fun v' w' => ∃ p, v' = .tuple #[.pointer (some ⟨p, 0, none⟩), .int .i64 0] ∧ V w0 w' (kJ p l l.length (-1) • F) := by
  obtain ⟨a, c, rfl, hc1, hc2, _⟩ := (hr w H).open
  refine iQ func69 ntmps69 ?_
  refine jw (iC O (sS O (bY O (aW (jS ay O) (aW (iT O O) (jd (ZM O (fun h1 => ?_))))))))
  (try simp only [aF] at h1)
  refine iy (kQ O (bY O (bT O (iY (dL (l := []) (H.gG none) (hr _ H) ay uI O O (by simp only [List.length_nil]; omega) (by simp only [List.length_nil]; omega)) ?_))))
  rintro u w1 H1
  rw [List.nil_append] at H1
  obtain ⟨au, cu, hu, _⟩ := (H1.aN).form
  subst hu
  refine iP O (bY O (bT O (aW (jS ay O) (aW (jB (pl := #[(0, 1), (1, 1), (2, 1)]) (oZ (.slice au l.length cu) l.length (-1)) bC zeroValue150 (fun w => by kernel_rfl) O (by kernel_rfl)) (iY (XI H1 O) ?_)))))
  rintro _ w2 ⟨b2, rfl, H2⟩
  refine iC O (ig O (Dw results69 O O ?_))
  exact ⟨_, O, V.qV hl (by omega) (by omega) H2⟩
theorem rM {x : Int} {t : TypeId} {fr : Nat × Nat} {a : Option Addr} {n c : Nat} (hb : w.heap[p]? = some (.cells (oZ (.slice a n c) pt mk) t fr)) :
    iM prog 127 #[.pointer (some ⟨p, 0, none⟩), .int .i64 x] w fun v w' => v = .bool (decide (0 ≤ x ∧ x ≤ n)) ∧ w = w' := by
  refine qI func127 ntmps127 ?_
  refine kQ O (bY O (aW (nM O O) (mX O (fun h1 => ?_) (fun h1 => ?_))))
  · (try simp only [aF] at h1)
    refine bW (bT O (bW (bT O (bW (dO O (bW (bn 0 bC O bF O (bW (fB ay O hb O (bW (aW (jS ay O) (bW (aW (qc O O) (nZ O O (ig O (fD results127 O ?_))))))))))))))))
    refine ⟨?_, O⟩; congr 1; first | (symm; rw [decide_eq_true_eq]; omega) | (symm; rw [decide_eq_false_iff_not]; omega) | (rw [decide_eq_decide]; omega)
  · (try simp only [aF] at h1)
    refine dF (dF (dF (dF (dF (dF (dF (kX O O (ig O (fD results127 O ?_)))))))))
    refine ⟨?_, O⟩; congr 1; first | (symm; rw [decide_eq_true_eq]; omega) | (symm; rw [decide_eq_false_iff_not]; omega) | (rw [decide_eq_decide]; omega)
theorem qF {x a b n : Int} (hx : -1 ≤ x ∧ x ≤ 1024) (ha : 0 ≤ a ∧ a ≤ 1024) (hb : 0 ≤ b ∧ b ≤ 1024) (hn : 0 ≤ n ∧ n ≤ 140737488355328) : iM prog 154 #[.int .i64 x, .int .i64 a, .int .i64 b, .int .i64 n] w fun v w' => v = .int .i64 (if b < x then x + n - (b - a) else x) ∧ w = w' := by
  refine Pv func154 ntmps154 ?_
  refine kQ O (aO (bY O (bT O (aW (iT O O) (jv O (fun h1 => ?_) (fun h1 => ?_))))))
  · (try simp only [aF] at h1)
    refine bY O (bT O (aW (fP O O (by omega)) (jy O O (aW (lW O O (by omega)) (aW (lW O O (by omega)) (ig O (aC (fD results154 O ?_))))))))
    exact ⟨by rw [if_pos (by omega)], O⟩
  · (try simp only [aF] at h1)
    refine iy (bY O (ig O (fD results154 O ?_)))
    exact ⟨by rw [if_neg (by omega)], O⟩
end
section
variable {w0 w : World} {F : HP} {p : Nat} {L : List Int} {pt mk x : Int} {v : Value} {l : List Int}
theorem SX (H : V w0 w (kJ p L pt mk • F)) : iM prog 78 #[.pointer (some ⟨p, 0, none⟩), .int .i64 x] w fun v w' => v = .int .i64 (mvE L.length x) ∧ V w0 w' (kJ p L (YW L.length pt x) mk • F) := by
  obtain ⟨a, c, g1, g2, g3, hc1, hc2, HB⟩ := H.ref
  refine qI func78 ntmps78 ?_
  refine kQ O (aO (bY O (bT O (fE O func127 (rM HB.get.2) ?_))))
  rintro _ _ ⟨rfl, rfl⟩
  refine aW (mG O) (jv O (fun h1 => ?_) (fun h1 => ?_))
  · (try simp only [aF] at h1)
    refine mP O (aC (fD results78 O ?_))
    exact ⟨by rw [mvE, if_neg (by omega)], by rw [YW, if_neg (by omega)]; exact H⟩
  · (try simp only [aF] at h1)
    refine iy (bY O (mJ O O (bn 1 bC O aj O (aI (iK HB aj O O O (by rw [lJ]; decide)) ?_))))
    rintro _ w2 H2
    rw [zH] at H2
    refine jd (mP O (fD results78 O ?_))
    exact ⟨by rw [mvE, if_pos (by omega)], by rw [YW, if_pos (by omega)]; exact V.qV g1 (by omega) g3 H2⟩
theorem Vk {a : Option Addr} {c : Nat} (HB : V w0 w (eF p (.cells (oZ (.slice a L.length c) pt mk) 150 (0, 0)) • jR 21 .i32 (.slice a L.length c) L • F)) (g1 : L.length ≤ 1024) :
  iM prog 134 #[.pointer (some ⟨p, 0, none⟩)] w fun v' w' => ∃ u, v' = .agg (qX u pt mk) ∧ V w0 w' (jR 21 .i32 u L • eF p (.cells (oZ (.slice a L.length c) pt mk) 150 (0, 0)) • jR 21 .i32 (.slice a L.length c) L • F) := by
 refine iQ func134 ntmps134 ?_
 refine jw (iY (xM HB sU) ?_)
 rintro _ w1 ⟨b1, rfl, H1⟩
 refine jd (kQ O (aO ?_))
 refine tC (n := 16) [0, 1, 2, 3, 4, 5, 6, 7, 8, 9, 10, 11, 12, 13, 14, 15] (fun W => W.heap[p]? = some (.cells (oZ (.slice a L.length c) pt mk) 150 (0, 0))) (by kernel_rfl) (by kernel_rfl) O ?_
 have hS0 : (fun W => W.heap[p]? = some (.cells (oZ (.slice a L.length c) pt mk) 150 (0, 0))) (w1.drew) := H1.swap.get.2
 have H2d := H1.drew
 refine gQ 0 O hS0 O (gQ 1 O hS0 O (jQ 2 O hS0 O (fQ 3 O hS0 0 bC O bF O (iO 4 O hS0 (fun W hW => jT ay O hW O) (gQ 6 O hS0 O (jQ 7 O hS0 O (fQ 8 O hS0 1 bC O aj O (iO 9 O hS0 (fun W hW => jT aB O hW O) (gQ 10 O hS0 O (jQ 11 O hS0 O (fQ 12 O hS0 2 bC O aj O (iO 13 O hS0 (fun W hW => jT aB O hW O) (lU 5 O (dL (l := []) (H2d.gG none) H2d.Qj.aN ay uI O O (by simp only [List.length_nil]; omega) (by simp only [List.length_nil]; omega)) ?_)))))))))))))
 rintro u w2 H2
 rw [List.nil_append] at H2
 obtain ⟨au, cu, hu, _⟩ := (H2.aN).form
 subst hu
 have hS2 : (fun W => W.heap[p]? = some (.cells (oZ (.slice a L.length c) pt mk) 150 (0, 0))) w2 := H2.Qj.get.2
 refine Z4 hS2 ?_
 refine iL 14 O hS2 (fun _ => jB (pl := #[(0, 1), (1, 1), (2, 1)]) (qX (.slice au L.length cu) pt mk) lC sU (fun w => by kernel_rfl) O (by kernel_rfl)) ?_
 refine gU 15 O (by kernel_rfl) (dP (cs := qX (.slice au L.length cu) pt mk) H2.swap sizeOf52 O O O O (QA O)) ?_
 rintro _ w3 H3
 refine TV (by kernel_rfl) ?_
 refine qj (aZ (mZ ?_))
 refine XK (.inl O) results134 O lC O (by rw [Uo]; rfl) H3.get.2 ?_
 exact ⟨_, O, H3.right⟩
end
end Go.Proofs.YtgofgnlkpeghcaaGreatDoor
end
section

end
section
namespace Go.Proofs.YtgofgnlkpeghcaaGreatDoor
open Go.RowKit
open _root_.Go.Proofs.Tryz
theorem Zo {pt i j m n : Int} (h : 0 ≤ i ∧ i ≤ j ∧ j ≤ n) (hp : 0 ≤ pt ∧ pt ≤ n) (hm : 0 ≤ m) : 0 ≤ dV pt i j m ∧ dV pt i j m ≤ n - (j - i) + m := by
  unfold dV
  by_cases h1 : j < pt
  · rw [if_pos h1]; omega
  · rw [if_neg h1]
    by_cases h2 : i ≤ pt
    · rw [if_pos h2]; omega
    · rw [if_neg h2]; omega
theorem Zp {mk i j m n : Int} (h : 0 ≤ i ∧ i ≤ j ∧ j ≤ n) (hp : -1 ≤ mk ∧ mk ≤ n) (hm : 0 ≤ m) : -1 ≤ dW mk i j m ∧ dW mk i j m ≤ n - (j - i) + m := by
  unfold dW
  by_cases h1 : j < mk
  · rw [if_pos h1]; omega
  · rw [if_neg h1]
    by_cases h2 : i < mk
    · rw [if_pos h2]; omega
    · rw [if_neg h2]; omega
theorem OX {pt i j n : Int} (h : ¬ (i ≤ pt ∧ pt ≤ j)) : (if j < pt then pt + n - (j - i) else pt) = dV pt i j n := by
  unfold dV
  by_cases h1 : j < pt
  · rw [if_pos h1, if_pos h1]; omega
  · rw [if_neg h1, if_neg h1, if_neg (by omega)]
theorem zu {mk i j n : Int} (h : ¬ (i < mk ∧ mk ≤ j)) : (if j < mk then mk + n - (j - i) else mk) = dW mk i j n := by
  unfold dW
  by_cases h1 : j < mk
  · rw [if_pos h1, if_pos h1]; omega
  · rw [if_neg h1, if_neg h1, if_neg (by omega)]
section
variable {w0 w : World} {F : HP} {p : Nat} {L : List Int} {pt mk x : Int} {v : Value} {l : List Int}
theorem L6 {i j : Int} (H : V w0 w (kJ p L pt mk • F)) (hr : jm w0 F .i32 v l) (hb : i < 0 ∨ L.length < i ∨ j < i ∨ L.length < j) :
  iM prog 125 #[.pointer (some ⟨p, 0, none⟩), .int .i64 i, .int .i64 j, v] w fun v' w' => v' = .tuple #[.agg (eU 0 (.slice none 0 0) (.slice none 0 0)), .int .i64 70] ∧ V w0 w' (kJ p L pt mk • F) := by
 obtain ⟨a, c, rfl, _, _, _⟩ := (hr w H.right).open
 obtain ⟨aL, cL, g1, g2, g3, hc1, hc2, HB⟩ := H.ref
 refine Pv func125 ntmps125 ?_
 refine jw (iY (xM HB cO) ?_)
 rintro _ w1 ⟨b1, rfl, H1⟩
 refine sS O (bY O (bT O (fE O func127 (rM H1.swap.get.2) ?_)))
 rintro _ _ ⟨rfl, rfl⟩
 refine aW (mG O) (mX O (fun h1 => ?_) (fun h1 => ?_))
 ·(try simp only [aF] at h1)
  refine dF (dF (dF (dF (nZ O O (bT O (dF (dF (dF (nZ O O (jd (GV (jw (aW (jB (pl := #[(0, 1), (1, 1), (2, 1)]) (eU 0 (.slice none 0 0) (.slice none 0 0)) aU cO (fun w => by kernel_rfl) O (by kernel_rfl)) (aI (dP (cs := eU 0 (.slice none 0 0) (.slice none 0 0)) H1 bJ O O O O (kZ O O)) ?_))))))))))))))
  rintro _ w3 H3
  refine ig O (aC ?_)
  refine jH (.inl O) mQ O O aU O (by rw [ny]; rfl) H3.get.2 ?_
  exact ⟨O, V.qV g1 g2 g3 H3.right⟩
 ·(try simp only [aF] at h1)
  refine bW (bT O (bW (bT O (bW (fE O func127 (rM H1.swap.get.2) ?_)))))
  rintro _ _ ⟨rfl, rfl⟩
  refine bW (aW (mG O) (kX O O (mX O (fun h2 => ?_) (fun h2 => ?_))))
  ·(try simp only [aF] at h2)
   refine dF (dF (dF (nZ O O (jd (GV (jw (aW (jB (pl := #[(0, 1), (1, 1), (2, 1)]) (eU 0 (.slice none 0 0) (.slice none 0 0)) aU cO (fun w => by kernel_rfl) O (by kernel_rfl)) (aI (dP (cs := eU 0 (.slice none 0 0) (.slice none 0 0)) H1 bJ O O O O (kZ O O)) ?_))))))))
   rintro _ w5 H5
   refine ig O (aC ?_)
   refine jH (.inl O) mQ O O aU O (by rw [ny]; rfl) H5.get.2 ?_
   exact ⟨O, V.qV g1 g2 g3 H5.right⟩
  ·(try simp only [aF] at h2)
   refine bW (bT O (bW (bT O (bW (aW (fG O O) (kX O O (jd (wcA O (fun h3 => ?_)))))))))
   (try simp only [aF] at h3)
   refine jw (aW (jB (pl := #[(0, 1), (1, 1), (2, 1)]) (eU 0 (.slice none 0 0) (.slice none 0 0)) aU cO (fun w => by kernel_rfl) O (by kernel_rfl)) (aI (dP (cs := eU 0 (.slice none 0 0) (.slice none 0 0)) H1 bJ O O O O (kZ O O)) ?_))
   rintro _ w6 H6
   refine ig O (aC ?_)
   refine jH (.inl O) mQ O O aU O (by rw [ny]; rfl) H6.get.2 ?_
   exact ⟨O, V.qV g1 g2 g3 H6.right⟩
theorem Kr {i j : Int} (H : V w0 w (kJ p L pt mk • F)) (hr : jm w0 F .i32 v l) (hb : 0 ≤ i ∧ i ≤ j ∧ j ≤ L.length) (hl : 1024 < L.length - (j - i) + l.length) (hlb : l.length ≤ 140737488355328) :
  iM prog 125 #[.pointer (some ⟨p, 0, none⟩), .int .i64 i, .int .i64 j, v] w fun v' w' => v' = .tuple #[.agg (eU 0 (.slice none 0 0) (.slice none 0 0)), .int .i64 3] ∧ V w0 w' (kJ p L pt mk • F) := by
 obtain ⟨a, c, rfl, _, _, _⟩ := (hr w H.right).open
 obtain ⟨aL, cL, g1, g2, g3, hc1, hc2, HB⟩ := H.ref
 refine Pv func125 ntmps125 ?_
 refine jw (iY (xM HB cO) ?_)
 rintro _ w1 ⟨b1, rfl, H1⟩
 refine sS O (bY O (bT O (fE O func127 (rM H1.swap.get.2) ?_)))
 rintro _ _ ⟨rfl, rfl⟩
 refine aW (mG O) (mX O (fun h1 => ?_) (fun h1 => ?_))
 ·(try simp only [aF] at h1)
  exfalso; first | contradiction | omega
 ·(try simp only [aF] at h1)
  refine bW (bT O (bW (bT O (bW (fE O func127 (rM H1.swap.get.2) ?_)))))
  rintro _ _ ⟨rfl, rfl⟩
  refine bW (aW (mG O) (kX O O (mX O (fun h2 => ?_) (fun h2 => ?_))))
  ·(try simp only [aF] at h2)
   exfalso; first | contradiction | omega
  ·(try simp only [aF] at h2)
   refine bW (bT O (bW (bT O (bW (aW (fG O O) (kX O O (jd (ZM O (fun h3 => ?_)))))))))
   (try simp only [aF] at h3)
   refine iy (aO (bY O (dO O (bn 0 bC O bF O (fB ay O H1.swap.get.2 O (aW (jS ay O) (jy O O (aW (lW O O (by omega)) (aW (lW O O (by omega)) (bT O (aW (jS ay O) (aW (fP O O (by omega)) (aW (iT O O) (jd (wcA O (fun h4 => ?_))))))))))))))))
   (try simp only [aF] at h4)
   refine jw (aW (jB (pl := #[(0, 1), (1, 1), (2, 1)]) (eU 0 (.slice none 0 0) (.slice none 0 0)) aU cO (fun w => by kernel_rfl) O (by kernel_rfl)) (aI (dP (cs := eU 0 (.slice none 0 0) (.slice none 0 0)) H1 bJ O O O O (kZ O O)) ?_))
   rintro _ w6 H6
   refine ig O (aC ?_)
   refine jH (.inl O) mQ O O aU O (by rw [ny]; rfl) H6.get.2 ?_
   exact ⟨O, V.qV g1 g2 g3 H6.right⟩
theorem OY {i j : Nat} (H : V w0 w (kJ p L pt mk • F)) (hr : jm w0 F .i32 v l) (hb : i ≤ j ∧ j ≤ L.length) (hl : (L.length : Int) - ((j : Int) - i) + l.length ≤ 1024) :
  iM prog 125 #[.pointer (some ⟨p, 0, none⟩), .int .i64 i, .int .i64 j, v] w fun v' w' => ∃ d s, v' = .tuple #[.agg (eU i d s), .int .i64 0] ∧
   V w0 w' (jR 21 .i32 d ((L.drop i).take (j - i)) • jR 21 .i32 s l • kJ p (L.take i ++ l ++ L.drop j) (dV pt i j l.length) (dW mk i j l.length) • F) := by
 obtain ⟨a, c, rfl, hac, agN, _⟩ := (hr w H.right).open
 obtain ⟨aL, cL, g1, g2, g3, hc1, hc2, HB⟩ := H.ref
 have hlen' : (L.take i ++ l ++ L.drop j).length = L.length - (j - i) + l.length := by simp; omega
 have q1 := Zo (pt := pt) (i := i) (j := j) (m := l.length) (n := L.length) (by omega) g2 (by omega)
 have q2 := Zp (mk := mk) (i := i) (j := j) (m := l.length) (n := L.length) (by omega) g3 (by omega)
 have hdl : ((L.drop i).take (j - i)).length = j - i := by simp; omega
 refine Pv func125 ntmps125 ?_
 refine jw (iY (xM HB cO) ?_)
 rintro _ w1 ⟨b1, rfl, H1⟩
 refine sS O (bY O (bT O (fE O func127 (rM H1.swap.get.2) ?_)))
 rintro _ _ ⟨rfl, rfl⟩
 refine aW (mG O) (mX O (fun h1 => ?_) (fun h1 => ?_))
 ·(try simp only [aF] at h1)
  exfalso; first | contradiction | omega
 ·(try simp only [aF] at h1)
  refine bW (bT O (bW (bT O (bW (fE O func127 (rM H1.swap.get.2) ?_)))))
  rintro _ _ ⟨rfl, rfl⟩
  refine bW (aW (mG O) (kX O O (mX O (fun h2 => ?_) (fun h2 => ?_))))
  ·(try simp only [aF] at h2)
   exfalso; first | contradiction | omega
  ·(try simp only [aF] at h2)
   refine bW (bT O (bW (bT O (bW (aW (fG O O) (kX O O (jd (ZM O (fun h3 => ?_)))))))))
   (try simp only [aF] at h3)
   refine iy (aO (bY O (dO O (bn 0 bC O bF O (fB ay O H1.swap.get.2 O (aW (jS ay O) (jy O O (aW (lW O O (by omega)) (aW (lW O O (by omega)) (bT O (aW (jS ay O) (aW (fP O O (by omega)) (aW (iT O O) (jd (ZM O (fun h4 => ?_))))))))))))))))
   (try simp only [aF] at h4)
   refine iy (jw (iC O (iC O (iP O (bY O (mJ O O (bn 0 bC O bF O (fB ay O H1.swap.get.2 O (jy O O (aW (uV ay iE O O O (by omega)) ?_))))))))))
   refine iY (dL (l := []) (H1.gG none) (jP.cut H1.Qj.aN (i := i) (j := j) hb.1 hb.2) ay uI O O (by simp only [List.length_nil]; omega) (by simp only [List.length_nil]; omega)) ?_
   rintro d w6 H6
   rw [List.nil_append] at H6
   obtain ⟨ad, cd, hd, _⟩ := (H6.aN).form
   subst hd
   refine iP O (bY O (bT O (iY (dL (l := []) (H6.gG none) (hr _ H6.right.right.right.right) ay uI O O (by simp only [List.length_nil]; omega) (by simp only [List.length_nil]; omega)) ?_)))
   rintro s w7 H7
   rw [List.nil_append] at H7
   obtain ⟨ai, ci, hs, _⟩ := (H7.aN).form
   subst hs
   refine iP O (bY O (mJ O O (bn 0 bC O bF O (fB ay O H7.r4.get.2 O (bT O (aW (uV ay iE O O O (by omega)) ?_))))))
   refine iY (dL (l := []) (H7.gG none) (jP.upto H7.r5.aN (j := i) (by omega)) ay uI O O (by simp; omega) (by simp; omega)) ?_
   rintro o1 w8 H8
   rw [List.nil_append] at H8
   refine iP O (bY O (bT O (iY (dL H8 (hr _ H8.right.right.right.right.right.right) ay uI O O (by simp; omega) (by simp; omega)) ?_)))
   rintro o2 w9 H9
   refine iP O (bY O (mJ O O (bn 0 bC O bF O (fB ay O H9.r5.get.2 O (bT O (aW (uV ay iE O O O (by omega)) ?_))))))
   refine iY (dL H9 (jP.from H9.r6.aN (i := j) hb.2) ay uI O O (by simp; omega) (by simp; omega)) ?_
   rintro o3 w10 sF
   obtain ⟨ao, co, ho, _⟩ := (sF.aN).form
   subst ho
   refine sS O (aO ?_)
   have HP := sF.r5
   refine aA (mJ O O (bn 1 bC O aj O (fB aB O HP.get.2 O (bT O (aW (nM O O) (mX O (fun h5 => ?_) (fun h5 => ?_)))))))
   ·(try simp only [aF] at h5)
    refine bW (bT O (bW (dO O (bW (bn 1 bC O aj O (bW (fB aB O HP.get.2 O (bW (bT O (bW (aW (qc O O) (nZ O O (jv O (fun h6 => ?_) (fun h6 => ?_))))))))))))))
    ·(try simp only [aF] at h6)
     refine aA (jy O O (bT O (aW (jS ay O) (aW (fP O O (by omega)) (dO O (bn 1 bC O aj O (aI (iK HP aj O O O (by rw [lJ]; decide)) ?_)))))))
     rintro _ Iq sG
     rw [zH] at sG
     refine rV (bY O (dO O (bn 2 bC O aj O (fB aB O sG.get.2 O (bT O (aW (iT O O) (mX O (fun h7 => ?_) (fun h7 => ?_))))))))
     ·(try simp only [aF] at h7)
      refine bW (bT O (bW (dO O (bW (bn 2 bC O aj O (bW (fB aB O sG.get.2 O (bW (bT O (bW (aW (qc O O) (nZ O O (jv O (fun h8 => ?_) (fun h8 => ?_))))))))))))))
      ·(try simp only [aF] at h8)
       refine aA (jy O O (dO O (bn 2 bC O aj O (aI (iK sG aj O O O (by rw [lJ]; decide)) ?_))))
       rintro _ w12 tN
       rw [pY] at tN
       refine ql O (mJ O O (bn 0 bC O bF O (aI (iK tN bF O O O (by rw [lJ]; decide)) ?_)))
       rintro _ Qz Ak
       rw [vJ] at Ak
       refine ql O (jy O O (aW (jB (pl := #[(0, 1), (1, 1), (2, 1)]) (eU i (.slice ad ((L.drop i).take (j - i)).length cd) (.slice ai l.length ci)) aU cO (fun w => by kernel_rfl) O (by kernel_rfl)) (aI (dP (cs := eU i (.slice ad ((L.drop i).take (j - i)).length cd) (.slice ai l.length ci)) Ak.r5 bJ O O O O (kZ O O)) ?_)))
       rintro _ TL Dh
       refine ig O ?_
       refine jH (.inl O) mQ O O aU O (by rw [ny]; rfl) Dh.get.2 ?_
       refine ⟨_, _, O, ?_⟩
       try rw [show dV pt i j l.length = (i : Int) + l.length from by unfold dV; rw [if_neg (by omega), if_pos (by omega)]] at q1 ⊢
       try rw [show dW mk i j l.length = (i : Int) from by unfold dW; rw [if_neg (by omega), if_pos (by omega)]] at q2 ⊢
       exact (V.qV (by omega) (by omega) (by omega) Dh.right).r4.right.d3.swap
      ·(try simp only [aF] at h8)
       refine aA (jy O O (dO O (bn 2 bC O aj O (fB aB O sG.get.2 O (jy O O (bT O (aW (jS ay O) (fE O func154 (qF (by omega) (by omega) (by omega) (by omega)) ?_))))))))
       rintro _ _ ⟨rfl, rfl⟩
       refine dO O (bn 2 bC O aj O (aI (iK sG aj O O O (by rw [lJ]; decide)) ?_))
       rintro _ w16 yj
       rw [pY, zu (by omega)] at yj
       refine ql O (mJ O O (bn 0 bC O bF O (aI (iK yj bF O O O (by rw [lJ]; decide)) ?_)))
       rintro _ w17 EH
       rw [vJ] at EH
       refine ql O (jy O O (aW (jB (pl := #[(0, 1), (1, 1), (2, 1)]) (eU i (.slice ad ((L.drop i).take (j - i)).length cd) (.slice ai l.length ci)) aU cO (fun w => by kernel_rfl) O (by kernel_rfl)) (aI (dP (cs := eU i (.slice ad ((L.drop i).take (j - i)).length cd) (.slice ai l.length ci)) EH.r5 bJ O O O O (kZ O O)) ?_)))
       rintro _ ZN EM
       refine ig O ?_
       refine jH (.inl O) mQ O O aU O (by rw [ny]; rfl) EM.get.2 ?_
       refine ⟨_, _, O, ?_⟩
       try rw [show dV pt i j l.length = (i : Int) + l.length from by unfold dV; rw [if_neg (by omega), if_pos (by omega)]] at q1 ⊢
       try rw [show dW mk i j l.length = (i : Int) from by unfold dW; rw [if_neg (by omega), if_pos (by omega)]] at q2 ⊢
       exact (V.qV (by omega) (by omega) (by omega) EM.right).r4.right.d3.swap
     ·(try simp only [aF] at h7)
      refine dF (dF (dF (dF (dF (dF (kX O O (jd (vS (aA (jy O O (dO O (bn 2 bC O aj O (fB aB O sG.get.2 O (jy O O (bT O (aW (jS ay O) (fE O func154 (qF (by omega) (by omega) (by omega) (by omega)) ?_)))))))))))))))))
      rintro _ _ ⟨rfl, rfl⟩
      refine dO O (bn 2 bC O aj O (aI (iK sG aj O O O (by rw [lJ]; decide)) ?_))
      rintro _ YT EI
      rw [pY, zu (by omega)] at EI
      refine ql O (mJ O O (bn 0 bC O bF O (aI (iK EI bF O O O (by rw [lJ]; decide)) ?_)))
      rintro _ YU wG
      rw [vJ] at wG
      refine ql O (jy O O (aW (jB (pl := #[(0, 1), (1, 1), (2, 1)]) (eU i (.slice ad ((L.drop i).take (j - i)).length cd) (.slice ai l.length ci)) aU cO (fun w => by kernel_rfl) O (by kernel_rfl)) (aI (dP (cs := eU i (.slice ad ((L.drop i).take (j - i)).length cd) (.slice ai l.length ci)) wG.r5 bJ O O O O (kZ O O)) ?_)))
      rintro _ w22 IQ
      refine ig O ?_
      refine jH (.inl O) mQ O O aU O (by rw [ny]; rfl) IQ.get.2 ?_
      refine ⟨_, _, O, ?_⟩
      try rw [show dV pt i j l.length = (i : Int) + l.length from by unfold dV; rw [if_neg (by omega), if_pos (by omega)]] at q1 ⊢
      try rw [show dW mk i j l.length = (i : Int) from by unfold dW; rw [if_neg (by omega), if_pos (by omega)]] at q2 ⊢
      exact (V.qV (by omega) (by omega) (by omega) IQ.right).r4.right.d3.swap
    ·(try simp only [aF] at h6)
     refine aA (jy O O (dO O (bn 1 bC O aj O (fB aB O HP.get.2 O (jy O O (bT O (aW (jS ay O) (fE O func154 (qF (by omega) (by omega) (by omega) (by omega)) ?_))))))))
     rintro _ _ ⟨rfl, rfl⟩
     refine dO O (bn 1 bC O aj O (aI (iK HP aj O O O (by rw [lJ]; decide)) ?_))
     rintro _ w24 MN
     rw [zH, OX (by omega)] at MN
     refine rV (bY O (dO O (bn 2 bC O aj O (fB aB O MN.get.2 O (bT O (aW (iT O O) (mX O (fun h9 => ?_) (fun h9 => ?_))))))))
     ·(try simp only [aF] at h9)
      refine bW (bT O (bW (dO O (bW (bn 2 bC O aj O (bW (fB aB O MN.get.2 O (bW (bT O (bW (aW (qc O O) (nZ O O (jv O (fun h10 => ?_) (fun h10 => ?_))))))))))))))
      ·(try simp only [aF] at h10)
       refine aA (jy O O (dO O (bn 2 bC O aj O (aI (iK MN aj O O O (by rw [lJ]; decide)) ?_))))
       rintro _ w25 NZ
       rw [pY] at NZ
       refine ql O (mJ O O (bn 0 bC O bF O (aI (iK NZ bF O O O (by rw [lJ]; decide)) ?_)))
       rintro _ w26 Gh
       rw [vJ] at Gh
       refine ql O (jy O O (aW (jB (pl := #[(0, 1), (1, 1), (2, 1)]) (eU i (.slice ad ((L.drop i).take (j - i)).length cd) (.slice ai l.length ci)) aU cO (fun w => by kernel_rfl) O (by kernel_rfl)) (aI (dP (cs := eU i (.slice ad ((L.drop i).take (j - i)).length cd) (.slice ai l.length ci)) Gh.r5 bJ O O O O (kZ O O)) ?_)))
       rintro _ w27 JO
       refine ig O ?_
       refine jH (.inl O) mQ O O aU O (by rw [ny]; rfl) JO.get.2 ?_
       refine ⟨_, _, O, ?_⟩
       try rw [show dV pt i j l.length = (i : Int) + l.length from by unfold dV; rw [if_neg (by omega), if_pos (by omega)]] at q1 ⊢
       try rw [show dW mk i j l.length = (i : Int) from by unfold dW; rw [if_neg (by omega), if_pos (by omega)]] at q2 ⊢
       exact (V.qV (by omega) (by omega) (by omega) JO.right).r4.right.d3.swap
      ·(try simp only [aF] at h10)
       refine aA (jy O O (dO O (bn 2 bC O aj O (fB aB O MN.get.2 O (jy O O (bT O (aW (jS ay O) (fE O func154 (qF (by omega) (by omega) (by omega) (by omega)) ?_))))))))
       rintro _ _ ⟨rfl, rfl⟩
       refine dO O (bn 2 bC O aj O (aI (iK MN aj O O O (by rw [lJ]; decide)) ?_))
       rintro _ w29 JQ
       rw [pY, zu (by omega)] at JQ
       refine ql O (mJ O O (bn 0 bC O bF O (aI (iK JQ bF O O O (by rw [lJ]; decide)) ?_)))
       rintro _ w30 PG
       rw [vJ] at PG
       refine ql O (jy O O (aW (jB (pl := #[(0, 1), (1, 1), (2, 1)]) (eU i (.slice ad ((L.drop i).take (j - i)).length cd) (.slice ai l.length ci)) aU cO (fun w => by kernel_rfl) O (by kernel_rfl)) (aI (dP (cs := eU i (.slice ad ((L.drop i).take (j - i)).length cd) (.slice ai l.length ci)) PG.r5 bJ O O O O (kZ O O)) ?_)))
       rintro _ w31 Rz
       refine ig O ?_
       refine jH (.inl O) mQ O O aU O (by rw [ny]; rfl) Rz.get.2 ?_
       refine ⟨_, _, O, ?_⟩
       try rw [show dV pt i j l.length = (i : Int) + l.length from by unfold dV; rw [if_neg (by omega), if_pos (by omega)]] at q1 ⊢
       try rw [show dW mk i j l.length = (i : Int) from by unfold dW; rw [if_neg (by omega), if_pos (by omega)]] at q2 ⊢
       exact (V.qV (by omega) (by omega) (by omega) Rz.right).r4.right.d3.swap
     ·(try simp only [aF] at h9)
      refine dF (dF (dF (dF (dF (dF (kX O O (jd (vS (aA (jy O O (dO O (bn 2 bC O aj O (fB aB O MN.get.2 O (jy O O (bT O (aW (jS ay O) (fE O func154 (qF (by omega) (by omega) (by omega) (by omega)) ?_)))))))))))))))))
      rintro _ _ ⟨rfl, rfl⟩
      refine dO O (bn 2 bC O aj O (aI (iK MN aj O O O (by rw [lJ]; decide)) ?_))
      rintro _ w33 TM
      rw [pY, zu (by omega)] at TM
      refine ql O (mJ O O (bn 0 bC O bF O (aI (iK TM bF O O O (by rw [lJ]; decide)) ?_)))
      rintro _ w34 UU
      rw [vJ] at UU
      refine ql O (jy O O (aW (jB (pl := #[(0, 1), (1, 1), (2, 1)]) (eU i (.slice ad ((L.drop i).take (j - i)).length cd) (.slice ai l.length ci)) aU cO (fun w => by kernel_rfl) O (by kernel_rfl)) (aI (dP (cs := eU i (.slice ad ((L.drop i).take (j - i)).length cd) (.slice ai l.length ci)) UU.r5 bJ O O O O (kZ O O)) ?_)))
      rintro _ w35 ZQ
      refine ig O ?_
      refine jH (.inl O) mQ O O aU O (by rw [ny]; rfl) ZQ.get.2 ?_
      refine ⟨_, _, O, ?_⟩
      try rw [show dV pt i j l.length = (i : Int) + l.length from by unfold dV; rw [if_neg (by omega), if_pos (by omega)]] at q1 ⊢
      try rw [show dW mk i j l.length = (i : Int) from by unfold dW; rw [if_neg (by omega), if_pos (by omega)]] at q2 ⊢
      exact (V.qV (by omega) (by omega) (by omega) ZQ.right).r4.right.d3.swap
   ·(try simp only [aF] at h5)
    refine dF (dF (dF (dF (dF (dF (kX O O (jd (vS (aA (jy O O (dO O (bn 1 bC O aj O (fB aB O HP.get.2 O (jy O O (bT O (aW (jS ay O) (fE O func154 (qF (by omega) (by omega) (by omega) (by omega)) ?_)))))))))))))))))
    rintro _ _ ⟨rfl, rfl⟩
    refine dO O (bn 1 bC O aj O (aI (iK HP aj O O O (by rw [lJ]; decide)) ?_))
    rintro _ w37 UW
    rw [zH, OX (by omega)] at UW
    refine rV (bY O (dO O (bn 2 bC O aj O (fB aB O UW.get.2 O (bT O (aW (iT O O) (mX O (fun h11 => ?_) (fun h11 => ?_))))))))
    ·(try simp only [aF] at h11)
     refine bW (bT O (bW (dO O (bW (bn 2 bC O aj O (bW (fB aB O UW.get.2 O (bW (bT O (bW (aW (qc O O) (nZ O O (jv O (fun h12 => ?_) (fun h12 => ?_))))))))))))))
     ·(try simp only [aF] at h12)
      refine aA (jy O O (dO O (bn 2 bC O aj O (aI (iK UW aj O O O (by rw [lJ]; decide)) ?_))))
      rintro _ w38 QG
      rw [pY] at QG
      refine ql O (mJ O O (bn 0 bC O bF O (aI (iK QG bF O O O (by rw [lJ]; decide)) ?_)))
      rintro _ w39 H39
      rw [vJ] at H39
      refine ql O (jy O O (aW (jB (pl := #[(0, 1), (1, 1), (2, 1)]) (eU i (.slice ad ((L.drop i).take (j - i)).length cd) (.slice ai l.length ci)) aU cO (fun w => by kernel_rfl) O (by kernel_rfl)) (aI (dP (cs := eU i (.slice ad ((L.drop i).take (j - i)).length cd) (.slice ai l.length ci)) H39.r5 bJ O O O O (kZ O O)) ?_)))
      rintro _ w40 H40
      refine ig O ?_
      refine jH (.inl O) mQ O O aU O (by rw [ny]; rfl) H40.get.2 ?_
      refine ⟨_, _, O, ?_⟩
      try rw [show dV pt i j l.length = (i : Int) + l.length from by unfold dV; rw [if_neg (by omega), if_pos (by omega)]] at q1 ⊢
      try rw [show dW mk i j l.length = (i : Int) from by unfold dW; rw [if_neg (by omega), if_pos (by omega)]] at q2 ⊢
      exact (V.qV (by omega) (by omega) (by omega) H40.right).r4.right.d3.swap
     ·(try simp only [aF] at h12)
      refine aA (jy O O (dO O (bn 2 bC O aj O (fB aB O UW.get.2 O (jy O O (bT O (aW (jS ay O) (fE O func154 (qF (by omega) (by omega) (by omega) (by omega)) ?_))))))))
      rintro _ _ ⟨rfl, rfl⟩
      refine dO O (bn 2 bC O aj O (aI (iK UW aj O O O (by rw [lJ]; decide)) ?_))
      rintro _ w42 WT
      rw [pY, zu (by omega)] at WT
      refine ql O (mJ O O (bn 0 bC O bF O (aI (iK WT bF O O O (by rw [lJ]; decide)) ?_)))
      rintro _ w43 WU
      rw [vJ] at WU
      refine ql O (jy O O (aW (jB (pl := #[(0, 1), (1, 1), (2, 1)]) (eU i (.slice ad ((L.drop i).take (j - i)).length cd) (.slice ai l.length ci)) aU cO (fun w => by kernel_rfl) O (by kernel_rfl)) (aI (dP (cs := eU i (.slice ad ((L.drop i).take (j - i)).length cd) (.slice ai l.length ci)) WU.r5 bJ O O O O (kZ O O)) ?_)))
      rintro _ w44 H44
      refine ig O ?_
      refine jH (.inl O) mQ O O aU O (by rw [ny]; rfl) H44.get.2 ?_
      refine ⟨_, _, O, ?_⟩
      try rw [show dV pt i j l.length = (i : Int) + l.length from by unfold dV; rw [if_neg (by omega), if_pos (by omega)]] at q1 ⊢
      try rw [show dW mk i j l.length = (i : Int) from by unfold dW; rw [if_neg (by omega), if_pos (by omega)]] at q2 ⊢
      exact (V.qV (by omega) (by omega) (by omega) H44.right).r4.right.d3.swap
    ·(try simp only [aF] at h11)
     refine dF (dF (dF (dF (dF (dF (kX O O (jd (vS (aA (jy O O (dO O (bn 2 bC O aj O (fB aB O UW.get.2 O (jy O O (bT O (aW (jS ay O) (fE O func154 (qF (by omega) (by omega) (by omega) (by omega)) ?_)))))))))))))))))
     rintro _ _ ⟨rfl, rfl⟩
     refine dO O (bn 2 bC O aj O (aI (iK UW aj O O O (by rw [lJ]; decide)) ?_))
     rintro _ w46 H46
     rw [pY, zu (by omega)] at H46
     refine ql O (mJ O O (bn 0 bC O bF O (aI (iK H46 bF O O O (by rw [lJ]; decide)) ?_)))
     rintro _ w47 H47
     rw [vJ] at H47
     refine ql O (jy O O (aW (jB (pl := #[(0, 1), (1, 1), (2, 1)]) (eU i (.slice ad ((L.drop i).take (j - i)).length cd) (.slice ai l.length ci)) aU cO (fun w => by kernel_rfl) O (by kernel_rfl)) (aI (dP (cs := eU i (.slice ad ((L.drop i).take (j - i)).length cd) (.slice ai l.length ci)) H47.r5 bJ O O O O (kZ O O)) ?_)))
     rintro _ w48 H48
     refine ig O ?_
     refine jH (.inl O) mQ O O aU O (by rw [ny]; rfl) H48.get.2 ?_
     refine ⟨_, _, O, ?_⟩
     try rw [show dV pt i j l.length = (i : Int) + l.length from by unfold dV; rw [if_neg (by omega), if_pos (by omega)]] at q1 ⊢
     try rw [show dW mk i j l.length = (i : Int) from by unfold dW; rw [if_neg (by omega), if_pos (by omega)]] at q2 ⊢
     exact (V.qV (by omega) (by omega) (by omega) H48.right).r4.right.d3.swap
end
section
variable {w0 w : World} {F : HP} {p : Nat} {L : List Int} {pt mk : Int} {v d s : Value} {l dl il : List Int} {i j a x : Int}
theorem L8 (H : V w0 w (kJ p L pt mk • F)) (hr : jm w0 F .i32 v l) (hlb : l.length ≤ 140737488355328) :
    iM prog 125 #[.pointer (some ⟨p, 0, none⟩), .int .i64 i, .int .i64 j, v] w fun v' w' => ∃ d s, v' = .tuple #[.agg #[.int .i64 (vY L i j l), d, s], .int .i64 (qx L i j l)] ∧
      V w0 w' (jR 21 .i32 d (rC L i j l) • jR 21 .i32 s (rD L i j l) • kJ p (wP L i j l) (wQ L pt i j l) (wR L mk i j l) • F) := by
  unfold vY wP wQ wR rC rD
  by_cases h1 : i < 0 ∨ L.length < i ∨ j < i ∨ L.length < j
  · have e : qx L i j l = 70 := by unfold qx; rw [if_pos h1]
    simp only [e, show ¬ (70 : Int) = 0 from by decide, if_false]
    exact (L6 H hr h1).mono fun v' w' h => ⟨_, _, h.1, (h.2.zN none).zN none⟩
  · have h2 : 0 ≤ i ∧ i ≤ j ∧ j ≤ L.length := by omega
    by_cases h3 : 1024 < L.length - (j - i) + l.length
    · have e : qx L i j l = 3 := by unfold qx; rw [if_neg h1, if_pos h3]
      simp only [e, show ¬ (3 : Int) = 0 from by decide, if_false]
      exact (Kr H hr h2 h3 hlb).mono fun v' w' h => ⟨_, _, h.1, (h.2.zN none).zN none⟩
    · have e : qx L i j l = 0 := by unfold qx; rw [if_neg h1, if_neg h3]
      simp only [e, if_true]
      obtain ⟨i', rfl⟩ := Int.eq_ofNat_of_zero_le h2.1
      obtain ⟨j', rfl⟩ := Int.eq_ofNat_of_zero_le (show 0 ≤ j by omega)
      have hij : i' ≤ j' ∧ j' ≤ L.length := by omega
      have := OY (i := i') (j := j') H hr hij (by omega)
      simpa only [Int.toNat_natCast, show ((j' : Int) - (i' : Int)).toNat = j' - i' from by omega, eU] using this
end
section
variable {w0 w : World} {F : HP} {p place : Nat} {E ls : List (List Int)} {v x y : Value} {l m : List Int} {vs : List Value}
theorem abN (H : V w0 w F) (h1 : jm w0 F .i32 x l) (h2 : jm w0 F .i32 y m) (hb : l.length + m.length ≤ 35184372088832) :
    iM prog 152 #[x, y] w fun v w' => V w0 w' (jR 21 .i32 v (l ++ m) • F) := by
  refine qI func152 ntmps152 ?_
  refine kQ O (kQ O (bY O (bT O (iY (dL (l := []) (H.gG none) (h1 _ (H)) ay KT O O (by first | omega | (simp only [List.length_append, List.length_nil, List.length_cons]; omega) | (simp; omega)) (by first | omega | (simp only [List.length_append, List.length_nil, List.length_cons]; omega) | (simp; omega))) ?_))))
  rintro l1 w1 H1
  try simp only [List.nil_append] at H1
  refine iP O (bY O (bT O (iY (dL H1 (h2 _ (H1.right)) ay KT O O (by first | omega | (simp only [List.length_append, List.length_nil, List.length_cons]; omega) | (simp; omega)) (by first | omega | (simp only [List.length_append, List.length_nil, List.length_cons]; omega) | (simp; omega))) ?_)))
  rintro l2 w2 H2
  try simp only [List.nil_append] at H2
  refine ig O (fD results152 O ?_)
  simpa using H2
theorem Zq (H : V w0 w F) (h1 : jm w0 F .i32 x l) (hb : l.length ≤ 35184372088832) :
    iM prog 152 #[x, .slice none 0 0] w fun v w' => V w0 w' (jR 21 .i32 v l • F) := by
  have := abN H h1 (fun W _ => jP.nil W .i32 none 0 (by decide)) (by simpa using hb)
  simpa using this
def mD (p : Nat) (E : List (List Int)) (place : Nat) : HP := yC fun v => eF p (.cells #[v, .int .i64 place] 138 (0, 0)) • LL 23 .i32 v E
theorem V.adF (H : V w0 w (mD p E place • F)) : ∃ v, V w0 w (eF p (.cells #[v, .int .i64 place] 138 (0, 0)) • LL 23 .i32 v E • F) := let ⟨v, h⟩ := H.pO; ⟨v, h.flat⟩
theorem V.OZ (H : V w0 w (eF p (.cells #[v, .int .i64 place] 138 (0, 0)) • LL 23 .i32 v E • F)) : V w0 w (mD p E place • F) := V.jG v H.deep
theorem FB {α : Type _} {l : List α} {k : Nat} {d : α} (h : k < l.length) : l.take (k + 1) = l.take k ++ [l.getD k d] := by rw [List.take_succ_eq_append_getElem h, List.getD_eq_getElem?_getD, List.getElem?_eq_getElem h]; rfl
end
end Go.Proofs.YtgofgnlkpeghcaaGreatDoor
end
