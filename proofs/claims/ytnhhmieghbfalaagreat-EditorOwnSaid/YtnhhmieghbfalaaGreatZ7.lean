import Derived.Test.YtnhhmieghbfalaaGreatZ4
import Derived.Test.YtnhhmieghbfalaaGreatZ6
import Derived.Test.YtnhhmieghbfalaaGreatZ3
import Derived.Test.YtnhhmieghbfalaaGreatZ5
set_option linter.unusedSimpArgs false
set_option linter.unusedVariables false
/- Texts of mine, joined, their names in short: Undo2 Eds UList Range UList2 UList3 UList4. -/
section
namespace Go.Proofs.YtnhhmieghbfalaaGreat
open Go.RowKit
section
variable {w0 w : World} {F : HP} {v d s z d2 z2 u1 u2 u3 : Value} {L dl il dl2 il2 l1 l2 l3 : List Int} {a a2 : Int}
def jK (a a2 : Int) (dl il dl2 il2 : List Int) : Nat := if dl2.length = 0 ∧ a2 = a + il.length then 1 else if il.length = 0 ∧ il2.length = 0 ∧ a = a2 + dl2.length then 2 else 0
def jA (k : Nat) (a a2 : Int) : Int := if k = 1 then a else if k = 2 then a2 else 0
def jD (k : Nat) (dl dl2 : List Int) : List Int := if k = 1 then dl else if k = 2 then dl2 ++ dl else []
def jI (k : Nat) (il il2 : List Int) : List Int := if k = 1 then il ++ il2 else []
end
structure fB where
  a : Int
  d : Value
  dl : List Int
  i : Value
  il : List Int
instance : Inhabited fB := ⟨⟨0, .slice none 0 0, [], .slice none 0 0, []⟩⟩
def fB.enc (e : fB) : List Value := [.int .i64 e.a, e.d, e.i]
theorem fB.DY (e : fB) : e.enc.length = 3 := rfl
def fB.Imm (I : Hp) (e : fB) : Prop := Eh I .i32 e.d e.dl ∧ Eh I .i32 e.i e.il
theorem fB.Imm.mono {I I' : Hp} {e : fB} (hl : Hp.le I I') (h : e.Imm I) : e.Imm I' := ⟨h.1.mono hl, h.2.mono hl⟩
def fB.says (e : fB) : Int × List Int × List Int := (e.a, e.dl, e.il)
def Jo (I : Hp) (es : List fB) : Prop := ∀ k, k < es.length → (es.getD k default).Imm I
theorem Jo.mono {I I' : Hp} {es : List fB} (hl : Hp.le I I') (h : Jo I es) : Jo I' es := fun k hk => (h k hk).mono hl
theorem Jo.app {I : Hp} {es fs : List fB} (h : Jo I es) (g : Jo I fs) : Jo I (es ++ fs) := fun k hk => by
  by_cases hl : k < es.length
  · rw [xg hl]; exact h k hl
  · rw [vZ (by omega)]; exact g _ (by simp at hk; omega)
theorem Jo.one {I : Hp} {e : fB} (h : e.Imm I) : Jo I [e] := fun k hk => by
  obtain rfl : k = 0 := by simp at hk; omega
  exact h
def nP (es : List fB) : HP := know (fun I => Jo I es) fun _ _ hl h => h.mono hl
def edK (e : fB) : HP := know (fun I => e.Imm I) fun _ _ hl h => h.mono hl
def JI (v : Value) (es : List fB) : HP := Row 130 3 v es.length (es.flatMap fB.enc) • nP es
def Ej (I : Hp) (sz : Nat) (v : Value) (n : Nat) (xs : List Value) : Prop := xs.length = n * sz ∧ ∃ a c, v = .slice a n c ∧ n ≤ c ∧ (c : Int) ≤ 9223372036854775807 ∧
  (0 < n → ∃ b o cs e fr, a = some ⟨b, o, none⟩ ∧ I b = some (.cells cs e fr) ∧ ∀ j, j < n * sz → cs[o + j]? = some (xs.getD j undef))
theorem Ej.mono {I I' : Hp} {sz n : Nat} {v : Value} {xs : List Value} (hl : Hp.le I I') (h : Ej I sz v n xs) : Ej I' sz v n xs := by
  obtain ⟨h0, a, c, h1, h2, h3, h4⟩ := h
  exact ⟨h0, a, c, h1, h2, h3, fun hp => let ⟨b, o, cs, e, fr, e1, e2, e3⟩ := h4 hp; ⟨b, o, cs, e, fr, e1, hl _ _ e2, e3⟩⟩
theorem Ej.rd {w : World} {m : Nat} {I : Hp} {sz n : Nat} {v : Value} {xs : List Value} (h : Ej I sz v n xs) (hI : ∀ k o, I k = some o → m ≤ k ∧ w.heap[k]? = some o) : Rd w sz v n xs := by
  obtain ⟨h0, a, c, h1, h2, h3, h4⟩ := h
  exact ⟨h0, a, c, h1, h2, h3, fun hp => let ⟨b, o, cs, e, fr, e1, e2, e3⟩ := h4 hp; ⟨b, o, e1, fun j hj => mQ (hI _ _ e2).2 (e3 j hj)⟩⟩
theorem Ej.Ve {I : Hp} {sz n : Nat} {v : Value} {xs : List Value} (h : Ej I sz v n xs) : v.oneCell' = true := by obtain ⟨_, a, c, rfl, _⟩ := h; rfl
def ElI (I : Hp) (v : Value) (es : List fB) : Prop := Ej I 3 v es.length (es.flatMap fB.enc) ∧ Jo I es
theorem ElI.mono {I I' : Hp} {v : Value} {es : List fB} (hl : Hp.le I I') (h : ElI I v es) : ElI I' v es := ⟨h.1.mono hl, h.2.mono hl⟩
def Ey (v : Value) (es : List fB) : HP := know (fun I => ElI I v es) fun _ _ hl h => h.mono hl
def EX (I : Hp) (gs : List (Value × List fB)) : Prop := ∀ k, k < gs.length → ElI I (gs.getD k default).1 (gs.getD k default).2
theorem EX.mono {I I' : Hp} {gs : List (Value × List fB)} (hl : Hp.le I I') (h : EX I gs) : EX I' gs := fun k hk => (h k hk).mono hl
theorem EX.app {I : Hp} {es fs : List (Value × List fB)} (h : EX I es) (g : EX I fs) : EX I (es ++ fs) := fun k hk => by
  by_cases hl : k < es.length
  · rw [xg hl]; exact h k hl
  · rw [vZ (by omega)]; exact g _ (by simp at hk; omega)
theorem EX.one {I : Hp} {v : Value} {es : List fB} (h : ElI I v es) : EX I [(v, es)] := fun k hk => by
  obtain rfl : k = 0 := by simp at hk; omega
  exact h
theorem EX.take {I : Hp} {gs : List (Value × List fB)} (h : EX I gs) (n : Nat) : EX I (gs.take n) := fun k hk => by
  simp at hk
  rw [Hy (by omega)]
  exact h k (by omega)
def qL (gs : List (Value × List fB)) : HP := know (fun I => EX I gs) fun _ _ hl h => h.mono hl
def EY (v : Value) (gs : List (Value × List fB)) : HP := Row 69 1 v gs.length (gs.map (·.1)) • qL gs
section
variable {w0 w : World} {F : HP} {v u : Value} {es fs : List fB} {e : fB} {gs : List (Value × List fB)} {a : Int} {d i : Value} {dl il : List Int}
theorem V.Dk (H : V w0 w F) : V w0 w (nP [] • F) := H.yw fun I k hk => by simp at hk
theorem V.KF (H : V w0 w F) : V w0 w (qL [] • F) := H.yw fun I k hk => by simp at hk
theorem V.uF (H : V w0 w F) (a : Option Addr) : V w0 w (JI (.slice a 0 0) [] • F) := (H.Dk.gV (e := 130) (sz := 3) a).deep
theorem V.FW (H : V w0 w F) (a : Option Addr) : V w0 w (EY (.slice a 0 0) [] • F) := (H.KF.gV (e := 69) (sz := 1) a).deep
theorem V.edL (H : V w0 w (JI v es • F)) : V w0 w (Row 130 3 v es.length (es.flatMap fB.enc) • nP es • F) := H.flat
theorem V.aan (H : V w0 w (EY v gs • F)) : V w0 w (Row 69 1 v gs.length (gs.map (·.1)) • qL gs • F) := H.flat
theorem V.uo (H : V w0 w (Row 130 3 v (es.length + 1) (es.flatMap fB.enc ++ [.int .i64 a, d, i]) • qK .i32 d dl • qK .i32 i il • nP es • F)) : V w0 w (JI v (es ++ [⟨a, d, dl, i, il⟩]) • F) := by
  have h1 : V w0 w (qK .i32 d dl • qK .i32 i il • nP es • Row 130 3 v (es.length + 1) (es.flatMap fB.enc ++ [.int .i64 a, d, i]) • F) := H.of_eq (by ac_rfl)
  have h2 : V w0 w (edK ⟨a, d, dl, i, il⟩ • nP es • Row 130 3 v (es.length + 1) (es.flatMap fB.enc ++ [.int .i64 a, d, i]) • F) := h1.CV (rF (fun I h g => ⟨h, g⟩) _)
  have h3 : V w0 w (nP (es ++ [⟨a, d, dl, i, il⟩]) • Row 130 3 v (es.length + 1) (es.flatMap fB.enc ++ [.int .i64 a, d, i]) • F) := h2.CV (rF (fun I h g => g.app (Jo.one h)) _)
  refine V.deep (h3.swap.of_eq ?_)
  rw [List.length_append, List.flatMap_append]
  simp [fB.enc]
theorem V.sK (H : V w0 w (JI v es • F)) : V w0 w (Ey v es • F) := by
  have hl := H.edL.yg
  have H := H.edL
  rcases H.uh with ⟨a, rfl, h1, h2, H1⟩ | ⟨g, o, c, cur, rfl, h2, h3, h4, h5, H1⟩
  · refine H1.CV (oM (fun I hI => ⟨⟨hl, a, 0, by rw [h1], by omega, by decide, fun h => by omega⟩, hI⟩) F)
  · exact H1.freeze.CV (rF (fun I hI hE => ⟨⟨hl, _, c, rfl, h2, h3, fun _ => ⟨g, o, cur, _, (0, 0), rfl, hI, h5⟩⟩, hE⟩) F)
theorem V.wU (H : V w0 w (Ey v es • F)) : Rd w 3 v es.length (es.flatMap fB.enc) := let ⟨I, h, hI⟩ := H.sV; h.1.rd hI
theorem V.ade (H : V w0 w (Ey v es • F)) {k : Nat} (hk : k < es.length) : oL w .i32 (es.getD k default).d (es.getD k default).dl := let ⟨I, h, hI⟩ := H.sV; (h.2 k hk).1.rd hI
theorem V.adf (H : V w0 w (Ey v es • F)) {k : Nat} (hk : k < es.length) : oL w .i32 (es.getD k default).i (es.getD k default).il := let ⟨I, h, hI⟩ := H.sV; (h.2 k hk).2.rd hI
theorem V.QW (H : V w0 w (qL gs • F)) {k : Nat} (hk : k < gs.length) : V w0 w (Ey (gs.getD k default).1 (gs.getD k default).2 • qL gs • F) := H.uf.CV (oM (fun I h => h k hk) _)
theorem V.QX (H : V w0 w (qL gs • F)) (n : Nat) : V w0 w (qL (gs.take n) • F) := H.CV (oM (fun I h => h.take n) _)
theorem V.uN (H : V w0 w (Row 69 1 v (gs.length + 1) (gs.map (·.1) ++ [u]) • Ey u es • qL gs • F)) : V w0 w (EY v (gs ++ [(u, es)]) • F) := by
  have h1 : V w0 w (Ey u es • qL gs • Row 69 1 v (gs.length + 1) (gs.map (·.1) ++ [u]) • F) := H.of_eq (by ac_rfl)
  have h3 : V w0 w (qL (gs ++ [(u, es)]) • Row 69 1 v (gs.length + 1) (gs.map (·.1) ++ [u]) • F) := h1.CV (rF (fun I h g => g.app (EX.one h)) _)
  refine V.deep (h3.swap.of_eq ?_)
  rw [List.length_append, List.map_append]
  rfl
theorem V.FX (H : V w0 w (nP es • F)) : ∀ x ∈ es.flatMap fB.enc, x.oneCell' = true := by
  obtain ⟨I, h, hI⟩ := H.sV
  intro x hx
  obtain ⟨e, he, hx⟩ := List.mem_flatMap.1 hx
  obtain ⟨k, hk, rfl⟩ := List.getElem_of_mem he
  have := h k hk
  rw [List.getD_eq_getElem?_getD, List.getElem?_eq_getElem hk] at this
  simp [fB.enc] at hx
  rcases hx with rfl | rfl | rfl
  · rfl
  · exact this.1.Ve
  · exact this.2.Ve
end
end Go.Proofs.YtnhhmieghbfalaaGreat
end
section
namespace Go.Proofs.YtnhhmieghbfalaaGreat
open Go.RowKit
open _root_.Go.Proofs.Tryz
abbrev iO := Int × List Int × List Int
def fQ (G : List (List iO)) (N : List iO) : Nat := (G.map List.length).sum + N.length
def EB (e : iO) : Prop := e.2.1.length ≤ 35184372087808 ∧ e.2.2.length ≤ 35184372087808
theorem aao {N : List iO} {x : iO} (h : ∀ e ∈ N, EB e) (hx : EB x) : ∀ e ∈ N ++ [x], EB e := fun e he => by
  rcases List.mem_append.1 he with he | he
  · exact h e he
  · rw [List.mem_singleton.1 he]; exact hx
theorem QY {G : List (List iO)} {N : List iO} (h : ∀ g ∈ G, ∀ e ∈ g, EB e) (hx : ∀ e ∈ N, EB e) : ∀ g ∈ G ++ [N], ∀ e ∈ g, EB e := fun g hg => by
  rcases List.mem_append.1 hg with hg | hg
  · exact h g hg
  · rw [List.mem_singleton.1 hg]; exact hx
theorem Vf {G : List (List iO)} {N : List iO} (h : ∀ g ∈ G, g ≠ []) (hx : N ≠ []) : ∀ g ∈ G ++ [N], g ≠ [] := fun g hg => by
  rcases List.mem_append.1 hg with hg | hg
  · exact h g hg
  · rw [List.mem_singleton.1 hg]; exact hx
def UOk (G : List (List iO)) (N : List iO) (op : Int) : Prop := (∀ g ∈ G, g ≠ []) ∧ fQ G N ≤ 16384 ∧ 0 ≤ op ∧ op ≤ 4611686018427387904 ∧ (∀ g ∈ G, ∀ e ∈ g, EB e) ∧ ∀ e ∈ N, EB e
theorem Ud {G : List (List iO)} (h : ∀ g ∈ G, g ≠ []) : G.length ≤ (G.map List.length).sum := by
  induction G with
  | nil => simp
  | cons g G ih =>
    have h1 := ih fun x hx => h x (by simp [hx])
    have h2 : 0 < g.length := List.length_pos_iff.2 (h g (by simp))
    simp; omega
theorem UOk.len {G : List (List iO)} {N : List iO} {op : Int} (h : UOk G N op) : G.length + N.length ≤ 16384 := by
  have := Ud h.1
  have := h.2.1
  unfold fQ at this
  omega
def jB (p : Nat) (G : List (List iO)) (N : List iO) (op : Int) : HP := wF fun (x : Value × Value × List (Value × List fB) × List fB) =>
  fact (UOk G N op ∧ x.2.2.1.map (fun g => g.2.map fB.says) = G ∧ x.2.2.2.map fB.says = N) • eF p (.cells #[x.1, x.2.1, .int .i64 op, .int .i64 (fQ G N : Nat), .bool true] 173 (0, 0)) • EY x.1 x.2.2.1 • JI x.2.1 x.2.2.2
section
variable {w0 w : World} {F : HP} {p : Nat} {G : List (List iO)} {N : List iO} {op : Int} {gv nv : Value} {gs : List (Value × List fB)} {now : List fB} {a : Int} {d z : Value} {dl il : List Int}
theorem V.y5 (H : V w0 w (jB p G N op • F)) : ∃ gv nv gs now, UOk G N op ∧ gs.map (fun g => g.2.map fB.says) = G ∧ now.map fB.says = N ∧ gs.length = G.length ∧ now.length = N.length ∧ G.length + N.length ≤ 16384 ∧
    V w0 w (eF p (.cells #[gv, nv, .int .i64 op, .int .i64 (fQ G N : Nat), .bool true] 173 (0, 0)) • Row 69 1 gv gs.length (gs.map (·.1)) • qL gs • Row 130 3 nv now.length (now.flatMap fB.enc) • nP now • F) := by
  obtain ⟨⟨gv, nv, gs, now⟩, H⟩ := H.oN
  obtain ⟨⟨h1, h2, h3⟩, H⟩ := H.flat.fact
  refine ⟨gv, nv, gs, now, h1, h2, h3, ?_, ?_, h1.len, ?_⟩
  · rw [← h2]; simp
  · rw [← h3]; simp
  · have := H.flat
    unfold EY JI at this
    exact this.of_eq (by ac_rfl)
theorem V.xG (h1 : UOk G N op) (h2 : gs.map (fun g => g.2.map fB.says) = G) (h3 : now.map fB.says = N) {ed : Int} (he : ed = (fQ G N : Nat))
    (H : V w0 w (eF p (.cells #[gv, nv, .int .i64 op, .int .i64 ed, .bool true] 173 (0, 0)) • EY gv gs • JI nv now • F)) : V w0 w (jB p G N op • F) := by
  subst he
  exact V.ji (gv, nv, gs, now) (V.deep (V.oG ⟨h1, h2, h3⟩ (H.of_eq (by ac_rfl))))
theorem V.qj (h1 : UOk G N op) (h2 : gs.map (fun g => g.2.map fB.says) = G) (h3 : now.map fB.says = N) {ed : Int} (he : ed = (fQ G N : Nat))
    (H : V w0 w (eF p (.cells #[gv, nv, .int .i64 op, .int .i64 ed, .bool true] 173 (0, 0)) • Row 69 1 gv gs.length (gs.map (·.1)) • qL gs • Row 130 3 nv now.length (now.flatMap fB.enc) • nP now • F)) : V w0 w (jB p G N op • F) :=
  V.xG h1 h2 h3 he (H.of_eq (by unfold EY JI; ac_rfl))
theorem nR (H : V w0 w (jB p G N op • F)) : iQ prog 115 #[.pointer (some ⟨p, 0, none⟩)] w fun v w' => v = .bool false ∧ w = w' := by
 refine jH func115 ntmps115 ?_
 refine kW O (aO ?_)
 obtain ⟨CP, Ai, qE, pK, nY, wV, uV, HY, Ia, Nh, rZ⟩ := (H).y5
 refine aB (dn O (aZ (nG underlying123 O O) (qG O (fun h1 => ?_) (fun h1 => ?_))))
 ·(try simp only [aK] at h1)
  exfalso; first | contradiction | omega
 ·(try simp only [aK] at h1)
  refine bK (dn O (bK (dA O (bK (Z 4 bT O aN O (bK (dL bf O (rZ).get.2 O (bK (aZ (kY O) (lH O O (jP O (gy results115 O ?_))))))))))))
  exact ⟨O, O⟩
theorem Pv (H : V w0 w F) : iQ prog 119 #[] w fun v w' => ∃ p, v = .pointer (some ⟨p, 0, none⟩) ∧ V w0 w' (jB p [] [] 0 • F) := by
  refine abD func119 ntmps119 ?_
  refine kW O (lQ (aZ (jd (pl := #[(0, 4), (4, 1)]) (#[_, _, _, _, _]) bT zeroValue173 (fun w => by kernel_rfl) O (O)) (jW (kC (l := [_, _, _, _, _]) H O O) ?_)))
  rintro _ w1 ⟨b1, rfl, H1⟩
  refine jP O (gy results119 O ?_)
  refine ⟨_, O, V.xG (gv := .slice none 0 0) (nv := .slice none 0 0) (gs := []) (now := []) ⟨by simp, by decide, by decide, by decide, by simp, by simp⟩ O O O ?_⟩
  exact (((H1).uF none).FW none).of_eq (by ac_rfl)
theorem Px (H : V w0 w (jB p G N op • F)) : iQ prog 100 #[.pointer (some ⟨p, 0, none⟩)] w fun v w' => v = .int .i64 ((G.length : Int) + min 1 N.length) ∧ V w0 w' (jB p G N op • F) := by
 refine jH func100 ntmps100 ?_
 refine kW O (aO (bY O (fO O func115 (nR H) ?_)))
 rintro _ _ ⟨rfl, rfl⟩
 refine iF (vX (gX (aO ?_)))
 obtain ⟨CP, Ai, qE, pK, nY, wV, uV, HY, Ia, Nh, rZ⟩ := (H).y5
 have Ib := rZ.drew
 have jT := V.kp (Ib.f5.f5.f5.f5.f5)
 refine wL [4, 10] jT O (gK 0 O jT O (jL 1 O jT O (fH 2 O jT 0 bT O dN O (fH 3 O jT 0 bW O gQ O (iY 4 O jT (fun W hW => jQ bJ O ((Kp.h hW)).get.2 O) (jR 5 O jT (fun _ => fA ((Ib.f2).aG) bJ O) (gK 6 O jT O (jL 7 O jT O (fH 8 O jT 0 bT O dN O (fH 9 O jT 1 bW O bn O (iY 10 O jT (fun W hW => jQ aQ O ((Kp.h hW)).get.2 O) (jR 11 O jT (fun _ => fA ((Ib.f4).aG) aQ O) (jR 12 O jT (fun _ => QB O O) (jR 13 O jT (fun _ => fZ O O (by omega)) (jR 14 O jT (fun _ => iV O) (qN (bC (oP (gy results100 O ?_)))))))))))))))))))
 have Nj := Ib.f5.f5.f5.f5.f5
 have JJ := V.qj nY wV uV rfl Nj
 exact ⟨by rw [HY, Ia]; congr 1; omega, JJ⟩
theorem KG (H : V w0 w (jB p G N op • F)) : iQ prog 79 #[.pointer (some ⟨p, 0, none⟩)] w fun v w' => v = .int .i64 (fQ G N : Nat) ∧ V w0 w' (jB p G N op • F) := by
 refine jH func79 ntmps79 ?_
 refine kW O (aO (bY O (fO O func115 (nR H) ?_)))
 rintro _ _ ⟨rfl, rfl⟩
 refine iF (vX (gX (aO ?_)))
 obtain ⟨CP, Ai, qE, pK, nY, wV, uV, HY, Ia, Nh, rZ⟩ := (H).y5
 refine aB (lM O O (Z 0 bT O dN O (Z 3 bW O ah O (dL ay O (rZ).get.2 O (jP O (gy results79 O ?_))))))
 have Nj := rZ.f5.f5.f5.f5.f5
 have JJ := V.qj nY wV uV rfl Nj
 exact ⟨O, JJ⟩
theorem y7 (H : V w0 w (jB p G N op • F)) (hb : op < 4611686018427387904) : iQ prog 92 #[.pointer (some ⟨p, 0, none⟩)] w fun v w' => v = .int .i64 0 ∧ V w0 w' (jB p G N (op + 1) • F) := by
 have hop : 0 ≤ op := by obtain ⟨gv, nv, gs, now, k1, _⟩ := H.y5; exact k1.2.2.1
 refine jH func92 ntmps92 ?_
 refine kW O (aO (bY O (fO O func115 (nR H) ?_)))
 rintro _ _ ⟨rfl, rfl⟩
 refine iF (vX (gX (aO ?_)))
 obtain ⟨CP, Ai, qE, pK, nY, wV, uV, HY, Ia, Nh, rZ⟩ := (H).y5
 refine aB (lM O O (Z 0 bT O dN O (Z 2 bW O ah O (dL ay O (rZ).get.2 O (aZ (fZ O O (by omega)) (dA O (Z 0 bT O dN O (Z 2 bW O ah O (aC (st5 2 rZ ah) ?_)))))))))
 rintro _ w3 H3
 refine iF (nM O (gy results92 O ?_))
 exact ⟨O, V.qj ⟨nY.1, nY.2.1, by omega, by omega, nY.2.2.2.2⟩ wV uV O H3.f5.f5.f5.f5.f5⟩
def xW (G : List (List iO)) (N : List iO) (a : Int) (dl il : List Int) : Int := if dl.length + il.length = 0 ∨ a < 0 then 1 else if 16384 ≤ fQ G N then 3 else 0
def Ue (G : List (List iO)) (N : List iO) (op a : Int) (dl il : List Int) : List (List iO) := if xW G N a dl il = 0 then (if 0 < op then G else G ++ [[(a, dl, il)]]) else G
def Uf (G : List (List iO)) (N : List iO) (op a : Int) (dl il : List Int) : List iO := if xW G N a dl il = 0 then (if 0 < op then N ++ [(a, dl, il)] else N) else N
theorem Py {x : iO} : fQ G (N ++ [x]) = fQ G N + 1 := by simp [fQ]; omega
theorem QZ {x : iO} : fQ (G ++ [[x]]) N = fQ G N + 1 := by simp [fQ]; omega
theorem KH (h : xW G N a dl il ≠ 0) : Ue G N op a dl il = G := by unfold Ue; rw [if_neg h]
theorem KI (h : xW G N a dl il ≠ 0) : Uf G N op a dl il = N := by unfold Uf; rw [if_neg h]
theorem JK (h : xW G N a dl il = 0) (ho : 0 < op) : Ue G N op a dl il = G := by unfold Ue; rw [if_pos h, if_pos ho]
theorem JL (h : xW G N a dl il = 0) (ho : 0 < op) : Uf G N op a dl il = N ++ [(a, dl, il)] := by unfold Uf; rw [if_pos h, if_pos ho]
theorem XY (h : xW G N a dl il = 0) (ho : ¬ 0 < op) : Ue G N op a dl il = G ++ [[(a, dl, il)]] := by unfold Ue; rw [if_pos h, if_neg ho]
theorem XZ (h : xW G N a dl il = 0) (ho : ¬ 0 < op) : Uf G N op a dl il = N := by unfold Uf; rw [if_pos h, if_neg ho]
theorem BI (H : V w0 w (jB p G N op • F)) (hd : jY w0 F .i32 d dl) (hi : jY w0 F .i32 z il) (b2 : dl.length ≤ 35184372087808) (b3 : il.length ≤ 35184372087808) :
  iQ prog 93 #[.pointer (some ⟨p, 0, none⟩), edV a d z] w fun v w' => v = .int .i64 (xW G N a dl il) ∧ V w0 w' (jB p (Ue G N op a dl il) (Uf G N op a dl il) op • F) := by
 refine qQ func93 ntmps93 ?_
 refine lQ (jW (kC (l := [_, _, _]) H O O) ?_)
 rintro _ w1 ⟨b1, rfl, H1⟩
 refine uK O (bY O (fO O func115 (nR H1.f2) ?_))
 rintro _ _ ⟨rfl, rfl⟩
 refine iF (vX (gX (aO (lQ (Z 1 aP O bg O (dL aA O (H1).get.2 O (aZ (pW (hd _ (H1.right.right)) aA O) (Z 2 aP O bg O (dL aA O (H1).get.2 O (aZ (pW (hi _ (H1.right.right)) aA O) (aZ (fZ O O (by omega)) (aZ (je O O) (qG O (fun h1 => ?_) (fun h1 => ?_))))))))))))))
 ·(try simp only [aK] at h1)
  refine cZ (cZ (cZ (nX O O (iF (Ko (nM O (aV (gy results93 O ?_))))))))
  have e : xW G N a dl il = 1 := by unfold xW; rw [if_pos (by omega)]
  rw [KH (by rw [e]; decide), KI (by rw [e]; decide), e]
  exact ⟨O, H1.right⟩
 ·(try simp only [aK] at h1)
  refine bK (Z 0 aP O ah O (bK (dL ay O (H1).get.2 O (bK (aZ (iE O O) (lH O O (kE O (fun h2 => ?_) (fun h2 => ?_))))))))
  ·(try simp only [aK] at h2)
   refine nM O (aV (gy results93 O ?_))
   have e : xW G N a dl il = 1 := by unfold xW; rw [if_pos (by omega)]
   rw [KH (by rw [e]; decide), KI (by rw [e]; decide), e]
   exact ⟨O, H1.right⟩
  ·(try simp only [aK] at h2)
   refine gX (aO (aO ?_))
   obtain ⟨CP, Ai, qE, pK, nY, wV, uV, HY, Ia, Nh, rZ⟩ := (H1.f2).y5
   refine aB (lM O O (Z 0 bT O dN O (Z 3 bW O ah O (dL ay O (rZ).get.2 O (aZ (Cc O O) (kE O (fun h3 => ?_) (fun h3 => ?_)))))))
   ·(try simp only [aK] at h3)
    refine nM O (aV (gy results93 O ?_))
    have e : xW G N a dl il = 3 := by unfold xW; rw [if_neg (by omega), if_pos (by omega)]
    have X0 := rZ.f5.f5.f5.f5.f5
    have X3 := V.qj nY wV uV rfl X0
    rw [KH (by rw [e]; decide), KI (by rw [e]; decide), e]
    exact ⟨O, X3.f2.right⟩
   ·(try simp only [aK] at h3)
    refine gX (bY O (dA O (Z 0 bT O dN O (Z 3 bW O ah O (dL ay O (rZ).get.2 O (aZ (fZ O O (by omega)) (dA O (Z 0 bT O dN O (Z 3 bW O ah O (aC (st5 3 rZ ah) ?_))))))))))
    rintro _ w7 H7
    refine qJ (bY O (dA O (Z 0 bT O dN O (Z 2 bW O ah O (dL ay O (H7).get.2 O (aZ (gG O O) (kE O (fun h4 => ?_) (fun h4 => ?_))))))))
    ·(try simp only [aK] at h4)
     have adg := H7.drew
     have II := V.kp (adg.f6.f6.f6.f6.f6.f6)
     refine wL [5, 6] II O (gK 0 O II O (gK 1 O II O (jL 2 O II O (fH 3 O II 0 bT O dN O (fH 4 O II 1 bW O bn O (iY 5 O II (fun W hW => jQ aQ O ((Kp.h hW)).get.2 O) (iY 6 O II (fun W hW => dF aP O bF O O ((Kp.h hW).f6).get.2) (lU 7 O (xB O func129 (yA adg (fun W HW => hd _ (HW.right.right.right.right.right.right)) (fun W HW => hi _ (HW.right.right.right.right.right.right)) (by omega) (by omega))) ?_))))))))
     rintro _ w8 ⟨d8, s8, rfl, H8⟩
     have Jp := V.kp (H8.f8.f8.f8.f8.f8.f8.f8.f8)
     refine dV Jp (fun W hW => (Kp.h hW).right.right.f6.f6.f6.f6.f6.f6) ?_
     refine lU 8 O (lK H8 aQ bF bV O O O (by decide) (by decide)) ?_
     rintro l9 w9 H9
     have Em := V.kp (H9.f9.f9.f9.f9.f9.f9.f9.f9.f9)
     refine dV Em (fun W hW => (Kp.h hW).right.f8.f8.f8.f8.f8.f8.f8.f8) ?_
     refine lU 9 O (dQ H9.f7 aQ wo O O O ((H9).aG) (aH (aW (by first | rfl | exact Rd.one ((H9.f2).aG)) (aW (by first | rfl | exact Rd.one ((H9.f3).aG)) bG))) (by omega) (by omega)) ?_
     rintro l10 w10 rD
     have abG := rD.f2.right
     have KJ := V.kp (abG.f8.f8.f8.f8.f8.f8.f8.f8)
     refine fG KJ (by kernel_rfl) ?_
     refine jL 10 O KJ O (fH 11 O KJ 0 bT O dN O (fH 12 O KJ 1 bW O bn O ?_))
     refine gJ 13 O (by kernel_rfl) (dX 1 (l' := [_, _, _, _, _]) abG.f4 bn O O (by first | rfl | exact Rd.one ((abG).aG)) O O) ?_
     rintro _ w12 vN
     have Dl := V.kp (vN.f8.f8.f8.f8.f8.f8.f8.f8)
     refine fG Dl (by kernel_rfl) ?_
     have hadd : 0 < op := by omega
     refine qN (bC (nM O (gy results93 O ?_)))
     have e : xW G N a dl il = 0 := by unfold xW; rw [if_neg (by omega), if_neg (by omega)]
     rw [JK e hadd, JL e hadd, e]
     have X := (vN.f8.right.f6.f6.f3.f7.f5.f7.f7).iZ.swap.iZ.swap
     have X2 := V.uo X.f3
     refine ⟨O, V.xG (gv := CP) (nv := l10) (gs := qE) (now := pK ++ [⟨a, d8, dl, s8, il⟩]) (ed := (fQ G N : Nat) + 1) ⟨nY.1, by rw [Py]; omega, nY.2.2.1, nY.2.2.2.1, nY.2.2.2.2.1, aao nY.2.2.2.2.2 ⟨b2, b3⟩⟩ wV (by rw [List.map_append, uV]; rfl) (by rw [Py]; rfl) (X2.of_eq (by unfold EY; ac_rfl))⟩
    ·(try simp only [aK] at h4)
     have X5 := H7.drew
     have zT := V.kp (X5.f6.f6.f6.f6.f6.f6)
     refine wL [5, 6] zT O (gK 0 O zT O (gK 1 O zT O (jL 2 O zT O (fH 3 O zT 0 bT O dN O (fH 4 O zT 0 bW O gQ O (iY 5 O zT (fun W hW => jQ bJ O ((Kp.h hW)).get.2 O) (iY 6 O zT (fun W hW => dF aP O bF O O ((Kp.h hW).f6).get.2) (lU 7 O (xB O func129 (yA X5 (fun W HW => hd _ (HW.right.right.right.right.right.right)) (fun W HW => hi _ (HW.right.right.right.right.right.right)) (by omega) (by omega))) ?_))))))))
     rintro _ TB ⟨d13, s13, rfl, AB⟩
     have zU := V.kp (AB.f8.f8.f8.f8.f8.f8.f8.f8)
     refine dV zU (fun W hW => (Kp.h hW).right.right.f6.f6.f6.f6.f6.f6) ?_
     refine lU 8 O (lK AB aQ bF bV O O O (by decide) (by decide)) ?_
     rintro l14 Qu AL
     have FY := V.kp (AL.f9.f9.f9.f9.f9.f9.f9.f9.f9)
     refine dV FY (fun W hW => (Kp.h hW).right.f8.f8.f8.f8.f8.f8.f8.f8) ?_
     refine lU 9 O (jc (vs := [_]) AL bJ bn oV O O O (by decide) (aW (by first | rfl | exact Rd.one ((AL).aG)) bG)) ?_
     rintro l15 TD Bz
     have Cm := V.kp (Bz.f10.f10.f10.f10.f10.f10.f10.f10.f10.f10)
     refine dV Cm (fun W hW => (Kp.h hW).right.f9.f9.f9.f9.f9.f9.f9.f9.f9) ?_
     refine lU 10 O (dQ Bz.f6 bJ IJ O O O ((Bz).aG) (aW (by first | rfl | exact Rd.one ((Bz.f2).aG)) bG) (by omega) (by omega)) ?_
     rintro l16 w16 wE
     have Ug := wE.f2.right
     have Oh := V.kp (Ug.f9.f9.f9.f9.f9.f9.f9.f9.f9)
     refine fG Oh (by kernel_rfl) ?_
     refine jL 11 O Oh O (fH 12 O Oh 0 bT O dN O (fH 13 O Oh 0 bW O gQ O ?_))
     refine gJ 14 O (by kernel_rfl) (dX 0 (l' := [_, _, _, _, _]) Ug.f5 gQ O O (by first | rfl | exact Rd.one ((Ug).aG)) O O) ?_
     rintro _ Xv Ef
     have y8 := V.kp (Ef.f9.f9.f9.f9.f9.f9.f9.f9.f9)
     refine fG y8 (by kernel_rfl) ?_
     have hadd : ¬ 0 < op := by omega
     refine qN (bC (nM O (gy results93 O ?_)))
     have e : xW G N a dl il = 0 := by unfold xW; rw [if_neg (by omega), if_neg (by omega)]
     rw [XY e hadd, XZ e hadd, e]
     have X := (Ef.f9.right.f8.f8.f3.f8.f5.f6.f8.f8).iZ.swap.iZ.swap
     have X2 := V.uo (es := []) X.Dk.f3.f3.f4
     have X4 := V.uN X2.sK.swap
     refine ⟨O, V.xG (gv := l16) (nv := Ai) (gs := qE ++ [(l14, [⟨a, d13, dl, s13, il⟩])]) (now := pK) (ed := (fQ G N : Nat) + 1) ⟨Vf nY.1 (List.cons_ne_nil _ _), by rw [QZ]; omega, nY.2.2.1, nY.2.2.2.1, QY nY.2.2.2.2.1 (by intro e he; rw [List.mem_singleton.1 he]; exact ⟨b2, b3⟩), nY.2.2.2.2.2⟩ (by rw [List.map_append, wV]; rfl) uV (by rw [QZ]; rfl) (X4.of_eq (by unfold JI; ac_rfl))⟩
end
end Go.Proofs.YtnhhmieghbfalaaGreat
end
section
namespace Go.Proofs.YtnhhmieghbfalaaGreat
open Go.RowKit
def Pz (P : Program) (l : Nat) (vs : List Value) (w : World) (T : Value → World → Prop) : Prop :=
  ∃ f tmps c d, (Instr.yield l vs.toArray).run P w = .ok (.round l f tmps c d) w ∧ RoundIn Fence.wide 0 P l f tmps c d w fun e w' => ∃ v, e = .returned v ∧ T v w'
theorem Pz.mono {P : Program} {l : Nat} {vs : List Value} {w : World} {T T' : Value → World → Prop} (h : Pz P l vs w T) (k : ∀ v w', T v w' → T' v w') : Pz P l vs w T' :=
  let ⟨f, tmps, c, d, h1, h2⟩ := h; ⟨f, tmps, c, d, h1, RoundIn.mono h2 fun _ _ ⟨v, e, t⟩ => ⟨v, e, k _ _ t⟩⟩
theorem Pz.bool {P : Program} {l : Nat} {vs : List Value} {w : World} {A B : World → Prop} (h : Pz P l vs w fun v W' => (v = .bool true ∧ A W') ∨ (v = .bool false ∧ B W')) : Pz P l vs w fun v W' => ∃ t, v = .bool t ∧ (t = true → A W') ∧ (t = false → B W') :=
  h.mono fun v W' hv => by
    rcases hv with ⟨rfl, h⟩ | ⟨rfl, h⟩
    · exact ⟨true, rfl, fun _ => h, fun e => by cases e⟩
    · exact ⟨false, rfl, (fun e => by cases e), fun _ => h⟩
theorem PD {P : Program} {L : List (Nat × Value)} {w : World} {ty : TypeId} {x : Operand} {args : List Operand} {ts : Array TypeId} {l : Nat} {vs : List Value} {T : Value → World → Prop} (hx : ev L x = some (.func (.yield l) #[] #[])) (ha : GV L args = some vs) (h : Pz P l vs w T) :
    xu P L (.call ⟨.value x, args.toArray, ts⟩) ty w T := by
  obtain ⟨f, tmps, c, d, hy, hr⟩ := h
  refine Z5 (fun ρ hρ dd pos qI g => ?_) hr
  have hg := hρ _ _ hx
  simp [execOp, resolve, invoke, evs hρ _ _ ha, hg, Deferred.ofValue, hy]
def Iter (P : Program) (w0 : World) (fv : Value) (R : HP) (n : Nat) (E : Nat → List Value → HP → Prop) : Prop :=
  ∀ (l : Nat) (J : Nat → HP) (X : HP) (w : World),
    (∀ k, k < n → ∀ vs A, E k vs A → ∀ G W, V w0 W (A • J k • G) → Pz P l vs W fun v W' => (v = .bool true ∧ V w0 W' (J (k + 1) • G)) ∨ (v = .bool false ∧ V w0 W' (X • G))) →
    V w0 w (J 0 • R) → Va P fv [.func (.yield l) #[] #[]] w fun _ W' => V w0 W' (J n • R) ∨ V w0 W' (X • R)
def Q5 (w0 : World) (I : HP) (Xr : HP) (Xe : Nat → HP) (G : HP) : Exit → Act → World → Prop
  | .normal, _, W => V w0 W (I • G)
  | .ret, _, W => V w0 W (Xr • G)
  | .exit id, _, W => V w0 W (Xe id • G)
  | _, _, _ => False
def Vg (P : Program) (N : Sh) (w0 : World) (body : Code) (I : HP) (Xr : HP) (Xe : Nat → HP) (G : HP) (a : Act) (W : World) : Prop :=
  ∃ (L : List (Nat × Value)) (B : HP), Fits N L a ∧ V w0 W (B • G) ∧ ∀ G' W', V w0 W' (B • G') → WC P N body (Q5 w0 I Xr Xe G') L W'
def X6 : Exit → Act → World → Prop := fun _ _ _ => False
theorem Uh {P : Program} {N : Sh} {w0 w : World} {body : Code} {I Xr : HP} {Xe : Nat → HP} {G B : HP} {L : List (Nat × Value)} (H : V w0 w (B • G)) (h : ∀ G' W', V w0 W' (B • G') → WC P N body (Q5 w0 I Xr Xe G') L W') :
    WQ N (Exit.then (Vg P N w0 body I Xr Xe G) X6) .normal L w := fun _ a ha => ⟨L, B, ha, H, h⟩
theorem KL {N : Sh} {w0 w : World} {I Xr : HP} {Xe : Nat → HP} {G : HP} {L : List (Nat × Value)} (H : V w0 w (I • G)) : WQ N (Q5 w0 I Xr Xe G) .normal L w := fun _ _ _ => H
theorem X7 {N : Sh} {w0 w : World} {I Xr : HP} {Xe : Nat → HP} {G : HP} {id : Nat} {L : List (Nat × Value)} (H : V w0 w (Xe id • G)) : WQ N (Q5 w0 I Xr Xe G) (.exit id) L w := fun _ _ _ => H
theorem X8 {w0 : World} {I Xr : HP} {Xe : Nat → HP} {G : HP} : NP (Q5 w0 I Xr Xe G) := fun _ _ _ h => h
def Ui : List Nat → List Value → List (Nat × Value) → List (Nat × Value)
  | [], _, L => L
  | _ :: _, [], L => L
  | p :: ps, v :: vs, L => Ui ps vs ((p, v) :: L)
theorem Q7 {n l : Nat} : ∀ (ps : List Nat) (vs : List Value) (L : List (Nat × Value)) (tmps : Array Value), (∀ p ∈ ps, p < n) → Fits ⟨n, [], some l⟩ L { tmps := tmps, defers := [] } →
    Fits ⟨n, [], some l⟩ (Ui ps vs L) { tmps := (ps.zip vs).foldl (fun t (p : Nat × Value) => t.setIfInBounds p.1 p.2) tmps, defers := [] }
  | [], _, _, _, _, h => h
  | _ :: _, [], _, _, _, h => h
  | p :: ps, v :: vs, L, tmps, hp, h => Q7 ps vs _ _ (fun q hq => hp q (by simp [hq])) (h.put (hp p (by simp)) v)
section
variable {P : Program} {N : Sh} {Q : Exit → Act → World → Prop} {L : List (Nat × Value)} {w0 w : World}
theorem BJ {g : Operand} {ps : List Nat} {assign body : Code} {fv : Value} {R : HP} {n : Nat} {E : Nat → List Value → HP → Prop} (hg : ev L g = some fv) (hit : Iter P w0 fv R n E) (I : Nat → HP) (Xr : HP) (Xe : Nat → HP) (H : V w0 w (I 0 • R))
    (hps : ps.all (· < N.n) = true)
    (hbody : ∀ l k, k < n → ∀ vs A, E k vs A → ∀ G W, V w0 W (A • I k • G) → vs.length = ps.length ∧ WC P ⟨N.n, [], some l⟩ assign (Exit.then (Vg P ⟨N.n, [], some l⟩ w0 body (I (k + 1)) Xr Xe G) X6) (Ui ps vs L) W)
    (hdone : ∀ D W, V w0 W (eF D (.deferred (some [])) • I n • R) → WQ ⟨N.n, D :: N.ds, none⟩ Q .normal L W)
    (hret : ∀ D W, V w0 W (eF D (.deferred (some [])) • Xr • R) → WQ ⟨N.n, D :: N.ds, none⟩ Q .ret L W)
    (adh : ∀ id D W, V w0 W (eF D (.deferred (some [])) • Xe id • R) → WQ ⟨N.n, D :: N.ds, none⟩ Q (.exit id) L W)
    (hro : N.ro = none := by rfl) : WC P N (.rangeFunc g ps.toArray assign body) Q L w := fun np a ha => by
  rw [hro]
  refine wpIn_rangeFunc fun fn _ => ?_
  let wH : LoopState → Option Code → Loop := fun s j => { state := s, pending := j, fn, tmps := a.tmps, params := ps.toArray, assign, body, defers := w.heap.size }
  have aeB := run_enterLoop_outer (P := P) (w := w) fn a.tmps ps.toArray assign body
  have H1 : V w0 ((w.alloc (.deferred (some []))).alloc (.loop (wH .ready none))) (eF (w.heap.size + 1) (.loop (wH .ready none)) • eF w.heap.size (.deferred (some [])) • I 0 • R) := by
    have := (H.alloc (.deferred (some []))).alloc (.loop (wH .ready none))
    rw [World.size_alloc] at this
    exact this
  let Lk : LoopState → Option Code → HP := fun s j => eF (w.heap.size + 1) (.loop (wH s j)) • eF w.heap.size (.deferred (some []))
  have abH : ∀ k, k < n → ∀ vs A, E k vs A → ∀ G W, V w0 W (A • (Lk .ready none • I k) • G) → Pz P (w.heap.size + 1) vs W fun v W' => (v = .bool true ∧ V w0 W' ((Lk .ready none • I (k + 1)) • G)) ∨
      (v = .bool false ∧ V w0 W' (wF (fun c : Code => Lk .done (some c) • (match c with | .ret => Xr | .exit id => Xe id | _ => fact False)) • G)) := by
    intro k hk vs A hE G W HW
    have e1 : (A • (Lk .ready none • I k) • G) = (eF (w.heap.size + 1) (.loop (wH .ready none)) • A • I k • eF w.heap.size (.deferred (some [])) • G) := by
      show (A • ((eF (w.heap.size + 1) (.loop (wH .ready none)) • eF w.heap.size (.deferred (some []))) • I k) • G) = _
      ac_rfl
    have HW1 := HW.of_eq e1
    have hl := HW1.get.2
    have hlen := (hbody (w.heap.size + 1) k hk vs A hE _ W (HW1.of_eq (show _ = (A • I k • eF (w.heap.size + 1) (.loop (wH .ready none)) • eF w.heap.size (.deferred (some [])) • G) by ac_rfl))).1
    refine ⟨fn, _, assign, body, run_yield hl (by rw [List.size_toArray, hlen]; exact List.size_toArray.symm), ?_⟩
    have hfit : Fits ⟨N.n, [], some (w.heap.size + 1)⟩ (Ui ps vs L) { tmps := (ps.toArray.zip vs.toArray).foldl (fun tmps (t, a) => tmps.setIfInBounds t a) a.tmps, defers := [] } := by
      have := Q7 (n := N.n) (l := w.heap.size + 1) ps vs L a.tmps (fun p hp => by simpa using List.all_eq_true.1 hps p hp) ⟨ha.size, rfl, ha.at_⟩
      simpa using this
    refine roundIn_of_wpIn trivial ?_
    have HW2 : V w0 W (A • I k • eF (w.heap.size + 1) (.loop (wH .ready none)) • eF w.heap.size (.deferred (some [])) • G) := HW1.of_eq (by ac_rfl)
    have hb := (hbody (w.heap.size + 1) k hk vs A hE _ W HW2).2 (fun c a w h => h) _ hfit
    refine wpIn_mono hb ?_
    rintro e a1 W1 hq
    cases e with
    | exit id => exact hq.elim
    | goto l => exact hq.elim
    | ret => exact hq.elim
    | panic c => exact hq.elim
    | outgrown => exact hq.elim
    | normal =>
      obtain ⟨L1, B, hf1, HB, hgo⟩ := hq
      have HB1 : V w0 W1 (eF (w.heap.size + 1) (.loop (wH .ready none)) • B • eF w.heap.size (.deferred (some [])) • G) := HB.of_eq (by ac_rfl)
      have hl1 := HB1.get.2
      refine ⟨_, run_beginRound hl1 rfl, ?_⟩
      have HB2 : V w0 (W1.putObj (w.heap.size + 1) (.loop (wH .busy none))) (eF (w.heap.size + 1) (.loop (wH .busy none)) • B • eF w.heap.size (.deferred (some [])) • G) := HB1.turn rfl rfl rfl (by simp) (World.putObj_heap_same HB1.lt) fun k hk _ => World.putObj_heap_other hk
      have hbd := hgo (eF (w.heap.size + 1) (.loop (wH .busy none)) • eF w.heap.size (.deferred (some [])) • G) _ (HB2.of_eq (by ac_rfl)) X8 a1 hf1
      refine wpIn_mono hbd ?_
      have fin : ∀ (j : Option Code) (W3 : World) (A3 : HP), V w0 W3 (A3 • eF (w.heap.size + 1) (.loop (wH .busy none)) • eF w.heap.size (.deferred (some [])) • G) →
          (Instr.endRound (w.heap.size + 1) j).run P W3 = .ok (.bool j.isNone) (W3.putObj (w.heap.size + 1) (.loop (wH (if j.isNone then .ready else .done) j))) ∧
          V w0 (W3.putObj (w.heap.size + 1) (.loop (wH (if j.isNone then .ready else .done) j))) ((Lk (if j.isNone then .ready else .done) j • A3) • G) := by
        intro j W3 A3 H3
        have H4 := H3.swap
        refine ⟨run_endRound j H4.get.2, ?_⟩
        have H5 : V w0 (W3.putObj (w.heap.size + 1) (.loop (wH (if j.isNone then .ready else .done) j))) (eF (w.heap.size + 1) (.loop (wH (if j.isNone then .ready else .done) j)) • A3 • eF w.heap.size (.deferred (some [])) • G) := H4.turn rfl rfl rfl (by simp) (World.putObj_heap_same H4.lt) fun k hk _ => World.putObj_heap_other hk
        refine H5.of_eq ?_
        show _ = (((eF (w.heap.size + 1) (.loop (wH (if j.isNone then .ready else .done) j)) • eF w.heap.size (.deferred (some []))) • A3) • G)
        ac_rfl
      rintro e a3 W3 hp
      cases e with
      | normal => obtain ⟨h1, h2⟩ := fin none W3 _ hp; exact ⟨_, _, h1, _, rfl, .inl ⟨rfl, h2⟩⟩
      | ret => obtain ⟨h1, h2⟩ := fin (some .ret) W3 _ hp; exact ⟨_, _, h1, _, rfl, .inr ⟨rfl, V.ji .ret h2⟩⟩
      | exit id => obtain ⟨h1, h2⟩ := fin (some (.exit id)) W3 _ hp; exact ⟨_, _, h1, _, rfl, .inr ⟨rfl, V.ji (.exit id) h2⟩⟩
      | goto l => exact hp.elim
      | panic c => exact hp.elim
      | outgrown => exact hp.elim
  have hcall := hit (w.heap.size + 1) (fun k => Lk .ready none • I k) _ _ abH (H1.of_eq (by
    show _ = (((eF (w.heap.size + 1) (.loop (wH .ready none)) • eF w.heap.size (.deferred (some []))) • I 0) • R)
    ac_rfl))
  obtain ⟨f, first, cap, fn', c, rfl, hf, hn, hb, adi⟩ := hcall
  refine ⟨w.heap.size + 1, _, _, { target := .fn (.func f) cap.toArray, args := (first ++ [Value.func (.yield (w.heap.size + 1)) #[] #[]]).toArray }, (w.alloc (.deferred (some []))).alloc (.loop (wH .ready none)), f, _, (w.alloc (.deferred (some []))).alloc (.loop (wH .ready none)), aeB, ?_, fun _ _ => trivial, ?_, (fun h => by cases h), XB.2 (Calls.mono adi ?_)⟩
  · have he := ha.ev hg
    have he2 : a.eval (.const (.func (.yield (w.heap.size + 1)) #[] #[])) = .func (.yield (w.heap.size + 1)) #[] #[] := rfl
    simp [resolve, rangeCall, he, he2, Deferred.ofValue, wH]
  · simp [invoke, callFunc, hf, hb]
    simpa using hn
  · rintro e W2 ⟨v, rfl, hv⟩
    have fin : ∀ (s : LoopState) (j : Option Code) (A : HP), s ≠ .busy → V w0 W2 ((Lk s j • A) • R) → (Instr.endLoop (w.heap.size + 1)).run P W2 = .ok j (W2.putObj (w.heap.size + 1) (.loop (wH .exhausted j))) ∧
        V w0 (W2.putObj (w.heap.size + 1) (.loop (wH .exhausted j))) (eF w.heap.size (.deferred (some [])) • A • R) := by
      intro s j A hs H3
      have H4 : V w0 W2 (eF (w.heap.size + 1) (.loop (wH s j)) • eF w.heap.size (.deferred (some [])) • A • R) := H3.of_eq (by
        show (((eF (w.heap.size + 1) (.loop (wH s j)) • eF w.heap.size (.deferred (some []))) • A) • R) = _
        ac_rfl)
      refine ⟨run_endLoop H4.get.2 hs, ?_⟩
      have H5 : V w0 (W2.putObj (w.heap.size + 1) (.loop (wH .exhausted j))) (eF (w.heap.size + 1) (.loop (wH .exhausted j)) • eF w.heap.size (.deferred (some [])) • A • R) := H4.turn rfl rfl rfl (by simp) (World.putObj_heap_same H4.lt) fun k hk _ => World.putObj_heap_other hk
      exact H5.right
    have hfit : Fits ⟨N.n, w.heap.size :: N.ds, none⟩ L { a with defers := [{ target := .collected w.heap.size, args := #[] }] ++ a.defers } := ⟨ha.size, by simp [ha.defers, XA], ha.at_⟩
    rcases hv with hv | hv
    · obtain ⟨h1, h2⟩ := fin _ _ _ (by decide) hv
      exact ⟨none, _, h1, hdone _ _ h2 np _ hfit⟩
    · obtain ⟨c, hv⟩ := hv.oN
      obtain ⟨h1, h2⟩ := fin _ _ _ (by decide) hv
      cases c with
      | ret => exact ⟨some .ret, _, h1, wpIn_ret (hret _ _ h2 np _ hfit)⟩
      | exit id => exact ⟨some (.exit id), _, h1, wpIn_exit (adh id _ _ h2 np _ hfit)⟩
      | _ => exact absurd h2.swap.fact.1 id
end
end Go.Proofs.YtnhhmieghbfalaaGreat
end
section
namespace Go.Proofs.YtnhhmieghbfalaaGreat
open Go.RowKit
open _root_.Go.Proofs.Tryz
def pX (G : List (List iO)) (N : List iO) : List (List iO) := if N = [] then G else G ++ [N]
theorem Uj {G : List (List iO)} {N : List iO} (h : N = []) : pX G N = G := by unfold pX; rw [if_pos h]
theorem uO {G : List (List iO)} {N : List iO} (h : N ≠ []) : pX G N = G ++ [N] := by unfold pX; rw [if_neg h]
theorem KN {G : List (List iO)} {N : List iO} : fQ (pX G N) [] = fQ G N := by
  unfold pX; split
  · rename_i h; rw [h]
  · simp [fQ]
section
variable {w0 w : World} {F : HP} {p : Nat} {G : List (List iO)} {N : List iO} {op : Int} {gv nv v : Value} {gs : List (Value × List fB)} {now es : List fB} {a : Int} {d z : Value} {dl il : List Int}
theorem Dn (H : V w0 w (jB p G N op • F)) : iQ prog 127 #[.pointer (some ⟨p, 0, none⟩)] w fun _ w' => V w0 w' (jB p (pX G N) [] 0 • F) := by
 refine jH func127 ntmps127 ?_
 refine aO (aO ?_)
 obtain ⟨CP, Ai, qE, pK, nY, wV, uV, HY, Ia, Nh, rZ⟩ := (H).y5
 refine aB (lM O O (Z 0 bT O dN O (Z 1 bW O bn O (dL aQ O (rZ).get.2 O (aZ (fA ((rZ.f4).aG) aQ O) (aZ (gG O O) (kE O (fun h1 => ?_) (fun h1 => ?_))))))))
 ·(try simp only [aK] at h1)
  have adj : 0 < pK.length := by omega
  have Uk := rZ.drew
  have qY := V.kp (Uk.f5.f5.f5.f5.f5)
  refine wL [5, 10] qY O (gK 0 O qY O (gK 1 O qY O (jL 2 O qY O (fH 3 O qY 0 bT O dN O (fH 4 O qY 0 bW O gQ O (iY 5 O qY (fun W hW => jQ bJ O ((Kp.h hW)).get.2 O) (gK 6 O qY O (jL 7 O qY O (fH 8 O qY 0 bT O dN O (fH 9 O qY 1 bW O bn O (iY 10 O qY (fun W hW => jQ aQ O ((Kp.h hW)).get.2 O) (lU 11 O (jc (vs := [_]) Uk bJ bn oV O O O (by decide) (aW (by first | rfl | exact Rd.one ((Uk.f4).aG)) bG)) ?_))))))))))))
  rintro l2 w2 H2
  have EZ := V.kp (H2.f6.f6.f6.f6.f6.f6)
  refine dV EZ (fun W hW => (Kp.h hW).right.f5.f5.f5.f5.f5) ?_
  refine lU 12 O (dQ H2.f3 bJ IJ O O O ((H2).aG) (aW (by first | rfl | exact Rd.one ((H2.f5).aG)) bG) (by omega) (by omega)) ?_
  rintro l3 w3 H3
  have Hd4 := H3.f2.right
  have xR := V.kp (Hd4.f5.f5.f5.f5.f5)
  refine fG xR (by kernel_rfl) ?_
  refine jL 13 O xR O (fH 14 O xR 0 bT O dN O (fH 15 O xR 0 bW O gQ O ?_))
  refine gJ 16 O (by kernel_rfl) (dX 0 (l' := [_, _, _, _, _]) Hd4.f2 gQ O O (by first | rfl | exact Rd.one ((Hd4).aG)) O O) ?_
  rintro _ w5 H5
  have En := V.kp (H5.f5.f5.f5.f5.f5)
  refine fG En (by kernel_rfl) ?_
  refine qN (bC (aB (jw O O (dA O (Z 0 bT O dN O (Z 1 bW O bn O (aC (st5 1 H5 bn) ?_)))))))
  rintro _ w6 H6
  refine dA O (Z 0 bT O dN O (Z 2 bW O ah O (aC (st5 2 H6 ah) ?_)))
  rintro _ w7 H7
  refine cO (kG (.inr O) results127 ?_)
  have hN : N ≠ [] := by rintro rfl; exact absurd Ia (by simp only [List.length_nil]; omega)
  rw [uO hN]
  have X := V.sK (v := Ai) (es := pK) (H7.f3.f3.f5.f5).deep
  have X4 := V.uN X.swap
  refine V.xG (gv := l3) (nv := .slice none 0 0) (gs := qE ++ [(Ai, pK)]) (now := []) (ed := (fQ G N : Nat)) ⟨Vf nY.1 hN, by rw [← uO hN, KN]; exact nY.2.1, by decide, by decide, QY nY.2.2.2.2.1 nY.2.2.2.2.2, by simp⟩ (by rw [List.map_append, wV, ← uV]; rfl) O (by rw [← uO hN, KN]) ((X4.uF none).of_eq (by ac_rfl))
 ·(try simp only [aK] at h1)
  have adj : pK.length = 0 := by omega
  refine gX (aB (jw O O (dA O (Z 0 bT O dN O (Z 1 bW O bn O (aC (st5 1 rZ bn) ?_))))))
  rintro _ w8 H8
  refine dA O (Z 0 bT O dN O (Z 2 bW O ah O (aC (st5 2 H8 ah) ?_)))
  rintro _ w9 H9
  refine cO (kG (.inr O) results127 ?_)
  have hN : N = [] := by rw [← uV, List.eq_nil_of_length_eq_zero adj]; rfl
  subst hN
  rw [Uj rfl]
  refine V.xG (gv := CP) (nv := .slice none 0 0) (gs := qE) (now := []) (ed := (fQ G [] : Nat)) ⟨nY.1, nY.2.1, by decide, by decide, nY.2.2.2.2⟩ wV O O (((H9.f4.right.f4.right.f3.f3).uF none).of_eq (by unfold EY; ac_rfl))
theorem V.PE (H : V w0 w (Ey v es • F)) : V w0 w (Ey v es • Ey v es • F) := H.uf
theorem Wn (b : Nat) : Iter prog w0 (.func (.func 137) #[] #[.pointer (some ⟨b, 0, none⟩)]) (eF b (.cells #[v] 69 (0, 0)) • Ey v es) es.length
  (fun k vs A => vs = [.int .i64 ((es.length - (k + 1) : Nat) : Int), .agg (es.getD (es.length - (k + 1)) default).enc.toArray] ∧ A = Ey v es) := by
 intro l J X w hy H
 refine ⟨137, [], [.pointer (some ⟨b, 0, none⟩)], _, _, O, func137, O, O, ?_⟩
 have H1 : V w0 w (eF b (.cells #[v] 69 (0, 0)) • Ey v es • J 0) := H.of_eq (by ac_rfl)
 obtain ⟨a, c, hv, hc1, hc2, _⟩ := (H1.swap.wU).form
 subst hv
 simp only [List.nil_append, List.cons_append]
 refine xqR func137 ntmps137 ?_
 dsimp only [CW, Nat.reduceAdd]
 refine lQ (dL aQ O (H1).get.2 O (aZ (fA ((H1.f2).wU) aQ O) (aZ (lJ O O (by omega)) (jZ O (bI ?_)))))
 refine iC [(0, _), (1, _)] (fun (k : Nat) => [(3, .int .i64 ((k : Int) - 1))]) (fun (k : Nat) W => k ≤ es.length ∧ V w0 W (eF b (.cells #[.slice a es.length c] 69 (0, 0)) • Ey (.slice a es.length c) es • J (es.length - k))) (fun (k : Nat) => k) (es.length) uj pY ⟨by omega, by rw [Nat.sub_self]; exact H1⟩ ?_
 rintro k w1 ⟨hk, HL⟩
 dsimp only [List.cons_append, List.nil_append]
 refine aO (bY O (aZ (Cc O O) (kE O (fun h1 => ?_) (fun h1 => ?_))))
 ·(try simp only [aK] at h1)
  refine gX (aO (bI (aO ?_)))
  obtain ⟨m, rfl⟩ : ∃ m, k = m + 1 := ⟨k - 1, by omega⟩
  rw [show (((m + 1 : Nat) : Int) - 1) = (m : Int) from by omega]
  refine aB (jw O O (dL aQ O (HL).get.2 O (dn O ?_)))
  obtain ⟨bv, ov, cv, ev⟩ := Rd.qP ((HL.f2).wU) (by omega)
  cases ev
  refine aZ (eG aQ bF O O (by omega)) (aZ (mV (ys := [_, _, _]) ((HL.f2).wU) (by omega) aP O bF O (mM fB.DY (by omega) default) O) (jW (PD O O (hy (es.length - (m + 1)) (by omega) _ _ ⟨by rw [show es.length - (es.length - (m + 1) + 1) = m from by omega]; rfl, O⟩ (Ey (.slice (some ⟨bv, ov, none⟩) es.length c) es • eF b (.cells #[.slice (some ⟨bv, ov, none⟩) es.length c] 69 (0, 0))) _ (HL.swap.PE.of_eq (by ac_rfl))).bool) ?_))
  rintro _ w2 ⟨t, rfl, ht1, ht2⟩
  refine aZ (kY O) (kE O (fun h2 => ?_) (fun h2 => ?_))
  ·(try simp only [aK] at h2)
   have HX := ht2 (by simpa using h2)
   refine oP (dO (aV (aV (dO (we0 results137 ?_)))))
   exact .inr (HX.of_eq (by ac_rfl))
  ·(try simp only [aK] at h2)
   have HN : V w0 w2 (eF b (.cells #[.slice (some ⟨bv, ov, none⟩) es.length c] 69 (0, 0)) • Ey (.slice (some ⟨bv, ov, none⟩) es.length c) es • J (es.length - m)) := by
    have h9 := ht1 (by simpa using h2)
    rw [show es.length - (m + 1) + 1 = es.length - m from by omega] at h9
    exact h9.of_eq (by ac_rfl)
   refine fV (aX (bC (aB (dn O (aZ (lJ O O (by omega)) (oD O (cO ?_)))))))
   refine eX (m) ?_ ?_ ?_ ?_
   ·exact pY
   ·exact uj
   ·(try dsimp only)
    first | done | exact ⟨by omega, HN.f2.f2⟩
   ·(try dsimp only); omega
 ·(try simp only [aK] at h1)
  refine gY (aY (aY (dw (kG (.inr O) results137 ?_))))
  obtain rfl : k = 0 := by omega
  rw [Nat.sub_zero] at HL
  exact .inl (HL.of_eq (by ac_rfl))
end
def BK (e : iO) : iO := (e.1, e.2.2, e.2.1)
def X9 (c : Nat) (es : List fB) (k : Nat) : HP := wF fun (x : Value × List fB) => fact (x.2.map fB.says = ((es.map fB.says).reverse.take k).map BK) • eF c (.cells #[x.1] 69 (0, 0)) • JI x.1 x.2
theorem Ya {es : List fB} {k : Nat} (hk : k < es.length) : ((es.map fB.says).reverse.take (k + 1)).map BK = ((es.map fB.says).reverse.take k).map BK ++ [BK (es.getD (es.length - (k + 1)) default).says] := by
  rw [List.take_succ_eq_append_getElem (by simpa using hk), List.map_append]
  congr 1
  simp only [List.map_cons, List.map_nil, List.getElem_reverse, List.getElem_map, List.length_map]
  rw [List.getD_eq_getElem?_getD, List.getElem?_eq_getElem (by omega)]
  have e : es.length - 1 - k = es.length - (k + 1) := by omega
  simp only [Option.getD_some, e]
section
variable {w0 w : World} {F : HP} {p : Nat} {G : List (List iO)} {N : List iO} {op : Int} {gv nv v : Value} {gs : List (Value × List fB)} {now es : List fB} {a : Int} {d z : Value} {dl il : List Int}
theorem V.Q8 {c k : Nat} (H : V w0 w (X9 c es k • F)) : ∃ u fs, fs.map fB.says = ((es.map fB.says).reverse.take k).map BK ∧ fs.length ≤ es.length ∧ V w0 w (eF c (.cells #[u] 69 (0, 0)) • Row 130 3 u fs.length (fs.flatMap fB.enc) • nP fs • F) := by
  obtain ⟨⟨u, fs⟩, H⟩ := H.oN
  obtain ⟨h, H⟩ := H.flat.fact
  refine ⟨u, fs, h, ?_, ?_⟩
  · have := congrArg List.length h
    simp at this
    omega
  · have := H.flat
    unfold JI at this
    exact this.of_eq (by ac_rfl)
theorem V.Yb {c k : Nat} {u : Value} {fs : List fB} (h : fs.map fB.says = ((es.map fB.says).reverse.take k).map BK) (H : V w0 w (eF c (.cells #[u] 69 (0, 0)) • JI u fs • F)) : V w0 w (X9 c es k • F) :=
  V.ji (u, fs) (V.deep (V.oG h H.deep))
theorem V.abI (H : V w0 w (Ey v es • F)) {k : Nat} (hk : k < es.length) : V w0 w (qK .i32 (es.getD k default).d (es.getD k default).dl • qK .i32 (es.getD k default).i (es.getD k default).il • Ey v es • F) := by
  have h1 : V w0 w (qK .i32 (es.getD k default).d (es.getD k default).dl • Ey v es • Ey v es • F) := H.PE.PE.CV (oM (fun I h => (h.2 k hk).1) _)
  have h2 : V w0 w (qK .i32 (es.getD k default).i (es.getD k default).il • qK .i32 (es.getD k default).d (es.getD k default).dl • Ey v es • F) := h1.swap.CV (oM (fun I h => (h.2 k hk).2) _)
  exact h2.swap
theorem Wp (H : V w0 w F) (hv : v.oneCell' = true) : iQ prog 135 #[v] w fun v' w' => ∃ b, v' = .func (.func 137) #[] #[.pointer (some ⟨b, 0, none⟩)] ∧ V w0 w' (eF b (.cells #[v] 69 (0, 0)) • F) := by
  refine jH func135 ntmps135 ?_
  refine lQ (jW (kC (l := [_]) H O (by first | rfl | exact He (by first | rfl | assumption))) ?_)
  rintro _ w1 ⟨b1, rfl, H1⟩
  refine jZ O (lQ (aZ (EN O O) (jP O (gy results135 O ?_))))
  exact ⟨_, O, H1⟩
theorem FZ (H : V w0 w (Ey v es • F)) (hB : ∀ k, k < es.length → EB (es.getD k default).says) (hL : es.length ≤ 16384) :
  iQ prog 128 #[v] w fun v' w' => ∃ fs : List fB, fs.map fB.says = (es.map fB.says).reverse.map BK ∧ V w0 w' (Row 130 3 v' fs.length (fs.flatMap fB.enc) • nP fs • Ey v es • F) := by
 refine jH func128 ntmps128 ?_
 refine kW O (lQ (jW (gq (l := [_]) H oV O) ?_))
 rintro _ w1 ⟨b1, rfl, H1⟩
 refine qJ (bY O (fO O func135 (Wp H1 (Rd.one ((H1.f2).wU))) ?_))
 rintro _ w2 ⟨bB2, rfl, H2⟩
 refine iF (bI ?_)
 have Q9 := H2.f2
 have Oi := V.Yb (es := es) (k := 0) (fs := []) rfl (Q9.uF none).swap
 refine BJ O (Wn bB2) (fun k => X9 b1 es k • F) (fact False) (fun _ => fact False) (Oi.f3.f3.f3.f3.f3.g2.comm) (by rfl) ?_ ?_ ?_ ?_
 ·rintro l5 k abJ vs5 A5 ⟨rfl, rfl⟩ G5 w5 H5
  try simp only [dI, qM, yc] at H5
  refine ⟨O, ?_⟩
  dsimp only [Ui]
  have Hq := (H5).abI (k := es.length - (k + 1)) (by omega)
  obtain ⟨hb1, hb2⟩ := hB (es.length - (k + 1)) (by omega)
  have hb1 : (es.getD (es.length - (k + 1)) default).dl.length ≤ 35184372087808 := hb1
  have hb2 : (es.getD (es.length - (k + 1)) default).il.length ≤ 35184372087808 := hb2
  obtain ⟨u, fs, hfs, hfl, HI⟩ := (Hq.f4).Q8
  refine aB (jW (gq (l := [_, _, _]) HI bV O) ?_)
  rintro _ w6 ⟨b6, rfl, H6⟩
  refine aC (dD 0 (l' := [_, _, _]) (us := [_, _, _]) H6 bF O O O (aH (aW (by first | rfl | exact Rd.one ((H6.f5).pJ)) (aW (by first | rfl | exact Rd.one ((H6.f6).pJ)) bG))) O O) ?_
  rintro _ w7 H7
  refine cO ?_
  refine Uh (H7.g8) ?_
  intro G8 w8 H8
  try simp only [dI] at H8
  refine bI ?_
  have adk := H8.drew
  have Yc := V.kp (adk.f7.f7.f7.f7.f7.f7.f7)
  refine wL [0, 1] Yc O (iY 0 O Yc (fun W hW => jQ aQ O ((Kp.h hW).f2).get.2 O) (iY 1 O Yc (fun W hW => dF aP O bF O O ((Kp.h hW)).get.2) (lU 2 O (xB O func136 (Hz adk (fun W HW => (HW.f5).pJ) (fun W HW => (HW.f6).pJ) (by omega) (by omega))) ?_)))
  rintro _ w9 ⟨d9, s9, rfl, H9⟩
  have Em := V.kp (H9.f9.f9.f9.f9.f9.f9.f9.f9.f9)
  refine dV Em (fun W hW => (Kp.h hW).right.right.f7.f7.f7.f7.f7.f7.f7) ?_
  refine lU 3 O (lK H9 aQ bF bV O O O (by decide) (by decide)) ?_
  rintro l10 w10 rD
  have CB := V.kp (rD.f10.f10.f10.f10.f10.f10.f10.f10.f10.f10)
  refine dV CB (fun W hW => (Kp.h hW).right.f9.f9.f9.f9.f9.f9.f9.f9.f9) ?_
  refine lU 4 O (dQ rD.f6 aQ wo O O O ((rD).aG) (aH (aW (by first | rfl | exact Rd.one ((rD.f2).aG)) (aW (by first | rfl | exact Rd.one ((rD.f3).aG)) bG))) (by omega) (by omega)) ?_
  rintro l11 Hr rX
  have Jq := rX.f2.right
  have Dl := V.kp (Jq.f9.f9.f9.f9.f9.f9.f9.f9.f9)
  refine fG Dl (by kernel_rfl) ?_
  refine gJ 5 O (by kernel_rfl) (dX 0 (l' := [_]) Jq.f5 bn O O (by first | rfl | exact Rd.one ((Jq).aG)) O O) ?_
  rintro _ TB AB
  have zU := V.kp (AB.f9.f9.f9.f9.f9.f9.f9.f9.f9)
  refine fG zU (by kernel_rfl) ?_
  refine qN (aX ?_)
  refine KL ?_
  have X := (AB.f5.right.f6.right.f6.right.f6.right.f6.f2.f6.f4.f6.f6).iZ.swap.iZ.swap
  have X2 := V.uo X.f3
  exact (V.Yb (es := es) (k := k + 1) (by rw [List.map_append, hfs, Ya (by omega)]; rfl) X2.swap).deep
 ·rintro D14 Qu AL
  have QT := AL.ed
  try simp only [dI, qM, yc] at QT
  have abK := QT.U2
  obtain ⟨u, fs, hfs, hfl, HI⟩ := (abK.f4).Q8
  refine aX (bC (lQ (dL aQ O (HI).get.2 O (jP O ?_))))
  refine JA (.inl O) (HI.f4) (fun TD Bz => ?_)
  refine ⟨_, aby results128 O, ?_⟩
  rw [List.take_of_length_le (by simp)] at hfs
  exact ⟨_, hfs, Bz.right.f3.right.f3.f3.f3⟩
 ·rintro D w H; exact absurd H.swap.fact.1 id
 ·rintro id D w H; exact absurd H.swap.fact.1 fun h => h
end
def F5 (G : List (List iO)) (N : List iO) : Int := if G.length + N.length = 0 then 6 else 0
def Vh (G : List (List iO)) (N : List iO) : List (List iO) := if G.length + N.length = 0 then G else (pX G N).dropLast
def Vj (G : List (List iO)) (N : List iO) : List iO := if G.length + N.length = 0 then N else []
def Vk (G : List (List iO)) (N : List iO) (op : Int) : Int := if G.length + N.length = 0 then op else 0
def aa0 (G : List (List iO)) (N : List iO) : List iO := if G.length + N.length = 0 then [] else ((pX G N).getLastD []).reverse.map BK
theorem Oj {G : List (List iO)} {g N : List iO} : fQ (G ++ [g]) N = fQ G N + g.length := by simp [fQ]; omega
section
variable {w0 w : World} {F : HP} {p : Nat} {G : List (List iO)} {N : List iO} {op : Int} {gv nv v : Value} {gs : List (Value × List fB)} {now es : List fB} {a : Int} {d z : Value} {dl il : List Int}
theorem Ul (h : ¬ G.length + N.length = 0) : pX G N ≠ [] := by
  unfold pX; split
  · rename_i hN; rintro rfl; subst hN; exact h rfl
  · simp
theorem V.Um (H : V w0 w (jB p G [] op • F)) (hG : G ≠ []) : ∃ gv nv hs gl xQ, G = hs.map (fun g => g.2.map fB.says) ++ [xQ.map fB.says] ∧ UOk G [] op ∧ G.length = hs.length + 1 ∧ hs.length ≤ 16384 ∧ xQ.length ≤ 16384 ∧ (∀ k, k < xQ.length → EB (xQ.getD k default).says) ∧
    V w0 w (eF p (.cells #[gv, nv, .int .i64 op, .int .i64 (fQ G [] : Nat), .bool true] 173 (0, 0)) • Row 69 1 gv (hs.length + 1) (hs.map (·.1) ++ [gl]) • qL hs • Ey gl xQ • JI nv [] • F) := by
  obtain ⟨gv, nv, gs, now, h1, h2, h3, h4, h5, h6, H⟩ := H.y5
  obtain rfl : now = [] := List.eq_nil_of_length_eq_zero (by simpa using h5)
  rcases List.eq_nil_or_concat gs with rfl | ⟨hs, ⟨gl, xQ⟩, rfl⟩
  · exact absurd h2.symm hG
  · have hG2 : G = hs.map (fun g => g.2.map fB.says) ++ [xQ.map fB.says] := by rw [← h2]; simp
    have hle : xQ.length ≤ 16384 := by
      have := h1.2.1
      rw [hG2, Oj] at this
      simp at this
      omega
    refine ⟨gv, nv, hs, gl, xQ, hG2, h1, ?_, ?_, hle, fun k hk => ?_, ?_⟩
    · rw [hG2]; simp
    · rw [hG2] at h6; simp at h6; omega
    · refine h1.2.2.2.2.1 (xQ.map fB.says) (by rw [hG2]; simp) _ ?_
      rw [List.getD_eq_getElem?_getD, List.getElem?_eq_getElem hk]
      exact List.mem_map_of_mem (List.getElem_mem hk)
    · rw [List.concat_eq_append, List.length_append, List.map_append] at H
      have H1 := (H.f3.QW (k := hs.length) (by simp)).swap
      rw [show (hs ++ [(gl, xQ)]).getD hs.length default = (gl, xQ) from by simp [List.getD_eq_getElem?_getD]] at H1
      have H2 := H1.QX hs.length
      rw [List.take_left' rfl] at H2
      exact H2.of_eq (by unfold JI; ac_rfl)
theorem Ez (H : V w0 w (jB p G N op • F)) : iQ prog 91 #[.pointer (some ⟨p, 0, none⟩)] w fun v w' => ∃ u, ∃ fs : List fB, v = .tuple #[u, .int .i64 (F5 G N)] ∧ fs.map fB.says = aa0 G N ∧
  V w0 w' (Row 130 3 u fs.length (fs.flatMap fB.enc) • nP fs • jB p (Vh G N) (Vj G N) (Vk G N op) • F) := by
 unfold F5 aa0 Vh Vj Vk
 refine jH func91 ntmps91 ?_
 refine lQ (oD O (uK O (bY O (fO O func115 (nR H) ?_))))
 rintro _ _ ⟨rfl, rfl⟩
 refine iF (vX (gX (aO (aO ?_))))
 obtain ⟨CP, Ai, qE, pK, nY, wV, uV, HY, Ia, Nh, rZ⟩ := (H).y5
 have Ib := rZ.drew
 have jT := V.kp (Ib.f5.f5.f5.f5.f5)
 refine wL [4, 10] jT O (gK 0 O jT O (jL 1 O jT O (fH 2 O jT 0 bT O dN O (fH 3 O jT 0 bW O gQ O (iY 4 O jT (fun W hW => jQ bJ O ((Kp.h hW)).get.2 O) (jR 5 O jT (fun _ => fA ((Ib.f2).aG) bJ O) (gK 6 O jT O (jL 7 O jT O (fH 8 O jT 0 bT O dN O (fH 9 O jT 1 bW O bn O (iY 10 O jT (fun W hW => jQ aQ O ((Kp.h hW)).get.2 O) (jR 11 O jT (fun _ => fA ((Ib.f4).aG) aQ O) (jR 12 O jT (fun _ => fZ O O (by omega)) (jR 13 O jT (fun _ => je O O) (qN (bC (eP O (fun h1 => ?_) (fun h1 => ?_))))))))))))))))))
 ·(try simp only [aK] at h1)
  have hGN : G.length + N.length = 0 := by omega
  have Nj := Ib.f5.f5.f5.f5.f5
  have JJ := V.qj nY wV uV rfl Nj
  refine lQ (oD O (jP O (aV (TV results91 O O ?_))))
  simp only [if_pos hGN]
  exact ⟨_, [], O, O, ((JJ).uF none).edL⟩
 ·(try simp only [aK] at h1)
  have hGN : ¬ G.length + N.length = 0 := by omega
  have PG := Ib.f5.f5.f5.f5.f5
  have PI := V.qj nY wV uV rfl PG
  refine gX (bY O (fO O func127 (Dn PI) ?_))
  rintro _ w9 H9
  refine qJ ?_
  obtain ⟨gv, nv, hs, gl, xQ, hG, hok, hl1, hl2, hl3, hEB, HU⟩ := (H9).Um (Ul hGN)
  have htot := hok.2.1
  refine aB (lM O O (Z 0 bT O dN O (Z 0 bW O gQ O (dL bJ O (HU).get.2 O (aZ (fA ((HU.f2).aG) bJ O) (aZ (lJ O O (by omega)) (jZ O (bY O (dA O (Z 0 bT O dN O (Z 0 bW O gQ O (dL bJ O (HU).get.2 O (dn O ?_)))))))))))))
  obtain ⟨bgv, ogv, cgv, egv⟩ := Rd.qP ((HU.f2).aG) (by omega)
  cases egv
  refine aZ (eG bJ bn O O (by omega)) ?_
  refine aZ (jk (eH aQ O) O (by first | exact Rd.wG ((HU.f2).aG) (by omega) | exact Rd.Hf ((HU.f2).aG) (by omega) | exact Rd.GX ((HU.f2).aG) (by omega))) ?_
  rw [show (hs.map (·.1) ++ [gl]).getD ((((hs.length + 1 : Nat)) : Int) - 1).toNat undef = gl from by rw [show ((((hs.length + 1 : Nat)) : Int) - 1).toNat = hs.length from by omega]; simp [List.getD_eq_getElem?_getD]]
  refine jZ O (bY O (lM O O (Z 0 bT O dN O (Z 0 bW O gQ O (dL bJ O (HU).get.2 O (dn O (aZ (sH ((HU.f2).aG) bJ bn O O O (by omega)) ?_)))))))
  refine dA O (Z 0 bT O dN O (Z 0 bW O gQ O (aC (dX 0 (l' := [_, _, _, _, _]) HU gQ O O (by first | rfl | exact Rd.one (Rd.QV ((HU.f2).aG) (by omega))) O O) ?_)))
  rintro _ w10 rD
  refine pG O (dA O (Z 0 bT O dN O (Z 3 bW O ah O (dL ay O (rD).get.2 O (dn O (aZ (fA ((rD.f4).wU) aQ O) (aZ (lJ O O (by omega)) (dA O (Z 0 bT O dN O (Z 3 bW O ah O (aC (st5 3 rD ah) ?_)))))))))))
  rintro _ Hr rX
  refine pG O (fO O func128 (FZ rX.f4 hEB hl3) ?_)
  rintro u12 w12 ⟨Yd, aa1, vN⟩
  refine oD O (jP O (TV results91 O O ?_))
  simp only [if_neg hGN]
  have hdl : (pX G N).dropLast = hs.map (fun g => g.2.map fB.says) := by rw [hG]; simp
  have hlast : (pX G N).getLastD [] = xQ.map fB.says := by rw [hG]; simp
  have hX := (vN.f3.right.f6.f6.f5.f5.f5.f6).QE (h := hs.length) (by omega)
  rw [hdl, hlast]
  rw [Nat.mul_one, List.take_left' (by simp), show (((hs.length + 1 : Nat) : Int) - 1).toNat = hs.length from by omega, show Int.toNat 0 = 0 from rfl] at hX
  have hT : fQ (pX G N) [] = fQ (hs.map (fun g => g.2.map fB.says)) [] + xQ.length := by rw [hG, Oj, List.length_map]
  have hok2 : UOk (hs.map (fun g => g.2.map fB.says)) [] 0 := ⟨fun g hg => hok.1 g (by rw [hG]; exact List.mem_append_left _ hg), by omega, by decide, by decide, fun g hg => hok.2.2.2.2.1 g (by rw [hG]; exact List.mem_append_left _ hg), by simp⟩
  refine ⟨_, _, O, (by assumption), ?_⟩
  have hU := V.xG (gv := sG 1 0 hs.length (.slice (some ⟨bgv, ogv, none⟩) (hs.length + 1) cgv)) (nv := nv) (gs := hs) (now := []) (ed := (fQ (pX G N) [] : Nat) - (xQ.length : Int)) (F := Row 130 3 u12 Yd.length (Yd.flatMap fB.enc) • nP Yd • F) hok2 rfl rfl (by omega) (hX.of_eq (by unfold EY; ac_rfl))
  exact hU.of_eq (by ac_rfl)
end
end Go.Proofs.YtnhhmieghbfalaaGreat
end
