import Derived.Test.YtnhhmieghbfalaaGreatDoorZ4
import Derived.Test.YtnhhmieghbfalaaGreatDoorZ6
set_option linter.unusedSimpArgs false
set_option linter.unusedVariables false
/- Texts of mine, joined, their names in short: Eds Hist HistF RHist RWalk. -/
section
namespace Go.Proofs.YtnhhmieghbfalaaGreatDoor
open Go.RowKit
structure gJ where
  a : Int
  d : Value
  dl : List Int
  i : Value
  il : List Int
instance : Inhabited gJ := ⟨⟨0, .slice none 0 0, [], .slice none 0 0, []⟩⟩
def gJ.enc (e : gJ) : List Value := [.int .i64 e.a, e.d, e.i]
theorem gJ.Ah (e : gJ) : e.enc.length = 3 := rfl
def gJ.Imm (I : Hp) (e : gJ) : Prop := KD I .i32 e.d e.dl ∧ KD I .i32 e.i e.il
theorem gJ.Imm.mono {I I' : Hp} {e : gJ} (hl : Hp.le I I') (h : e.Imm I) : e.Imm I' := ⟨h.1.mono hl, h.2.mono hl⟩
def gJ.says (e : gJ) : Int × List Int × List Int := (e.a, e.dl, e.il)
def PZ (I : Hp) (es : List gJ) : Prop := ∀ k, k < es.length → (es.getD k default).Imm I
theorem PZ.mono {I I' : Hp} {es : List gJ} (hl : Hp.le I I') (h : PZ I es) : PZ I' es := fun k hk => (h k hk).mono hl
theorem PZ.app {I : Hp} {es fs : List gJ} (h : PZ I es) (g : PZ I fs) : PZ I (es ++ fs) := fun k hk => by
  by_cases hl : k < es.length
  · rw [C9 hl]; exact h k hl
  · rw [Bj (by omega)]; exact g _ (by simp at hk; omega)
theorem PZ.one {I : Hp} {e : gJ} (h : e.Imm I) : PZ I [e] := fun k hk => by
  obtain rfl : k = 0 := by simp at hk; omega
  exact h
def oK (es : List gJ) : HP := know (fun I => PZ I es) fun _ _ hl h => h.mono hl
def edK (e : gJ) : HP := know (fun I => e.Imm I) fun _ _ hl h => h.mono hl
def Qv (v : Value) (es : List gJ) : HP := Row 143 3 v es.length (es.flatMap gJ.enc) • oK es
def KF (I : Hp) (sz : Nat) (v : Value) (n : Nat) (xs : List Value) : Prop := xs.length = n * sz ∧ ∃ a c, v = .slice a n c ∧ n ≤ c ∧ (c : Int) ≤ 9223372036854775807 ∧
  (0 < n → ∃ b o cs e fr, a = some ⟨b, o, none⟩ ∧ I b = some (.cells cs e fr) ∧ ∀ j, j < n * sz → cs[o + j]? = some (xs.getD j undef))
theorem KF.mono {I I' : Hp} {sz n : Nat} {v : Value} {xs : List Value} (hl : Hp.le I I') (h : KF I sz v n xs) : KF I' sz v n xs := by
  obtain ⟨h0, a, c, h1, h2, h3, h4⟩ := h
  exact ⟨h0, a, c, h1, h2, h3, fun hp => let ⟨b, o, cs, e, fr, e1, e2, e3⟩ := h4 hp; ⟨b, o, cs, e, fr, e1, hl _ _ e2, e3⟩⟩
theorem KF.rd {w : World} {m : Nat} {I : Hp} {sz n : Nat} {v : Value} {xs : List Value} (h : KF I sz v n xs) (hI : ∀ k o, I k = some o → m ≤ k ∧ w.heap[k]? = some o) : Rd w sz v n xs := by
  obtain ⟨h0, a, c, h1, h2, h3, h4⟩ := h
  exact ⟨h0, a, c, h1, h2, h3, fun hp => let ⟨b, o, cs, e, fr, e1, e2, e3⟩ := h4 hp; ⟨b, o, e1, fun j hj => iP (hI _ _ e2).2 (e3 j hj)⟩⟩
theorem KF.aby {I : Hp} {sz n : Nat} {v : Value} {xs : List Value} (h : KF I sz v n xs) : v.oneCell' = true := by obtain ⟨_, a, c, rfl, _⟩ := h; rfl
def ElI (I : Hp) (v : Value) (es : List gJ) : Prop := KF I 3 v es.length (es.flatMap gJ.enc) ∧ PZ I es
theorem ElI.mono {I I' : Hp} {v : Value} {es : List gJ} (hl : Hp.le I I') (h : ElI I v es) : ElI I' v es := ⟨h.1.mono hl, h.2.mono hl⟩
def Jm (v : Value) (es : List gJ) : HP := know (fun I => ElI I v es) fun _ _ hl h => h.mono hl
def LK (I : Hp) (gs : List (Value × List gJ)) : Prop := ∀ k, k < gs.length → ElI I (gs.getD k default).1 (gs.getD k default).2
theorem LK.mono {I I' : Hp} {gs : List (Value × List gJ)} (hl : Hp.le I I') (h : LK I gs) : LK I' gs := fun k hk => (h k hk).mono hl
theorem LK.app {I : Hp} {es fs : List (Value × List gJ)} (h : LK I es) (g : LK I fs) : LK I (es ++ fs) := fun k hk => by
  by_cases hl : k < es.length
  · rw [C9 hl]; exact h k hl
  · rw [Bj (by omega)]; exact g _ (by simp at hk; omega)
theorem LK.one {I : Hp} {v : Value} {es : List gJ} (h : ElI I v es) : LK I [(v, es)] := fun k hk => by
  obtain rfl : k = 0 := by simp at hk; omega
  exact h
theorem LK.take {I : Hp} {gs : List (Value × List gJ)} (h : LK I gs) (n : Nat) : LK I (gs.take n) := fun k hk => by
  simp at hk
  rw [Om (by omega)]
  exact h k (by omega)
def vW (gs : List (Value × List gJ)) : HP := know (fun I => LK I gs) fun _ _ hl h => h.mono hl
def LM (v : Value) (gs : List (Value × List gJ)) : HP := Row 56 1 v gs.length (gs.map (·.1)) • vW gs
section
variable {w0 w : World} {F : HP} {v u : Value} {es fs : List gJ} {e : gJ} {gs : List (Value × List gJ)} {a : Int} {d i : Value} {dl il : List Int}
theorem V.JA (H : V w0 w F) : V w0 w (oK [] • F) := H.Eb fun I k hk => by simp at hk
theorem V.Rj (H : V w0 w F) : V w0 w (vW [] • F) := H.Eb fun I k hk => by simp at hk
theorem V.zA (H : V w0 w F) (a : Option Addr) : V w0 w (Qv (.slice a 0 0) [] • F) := (H.JA.iV (e := 143) (sz := 3) a).deep
theorem V.MQ (H : V w0 w F) (a : Option Addr) : V w0 w (LM (.slice a 0 0) [] • F) := (H.Rj.iV (e := 56) (sz := 1) a).deep
theorem V.edL (H : V w0 w (Qv v es • F)) : V w0 w (Row 143 3 v es.length (es.flatMap gJ.enc) • oK es • F) := H.flat
theorem V.af1 (H : V w0 w (LM v gs • F)) : V w0 w (Row 56 1 v gs.length (gs.map (·.1)) • vW gs • F) := H.flat
theorem V.zW (H : V w0 w (Row 143 3 v (es.length + 1) (es.flatMap gJ.enc ++ [.int .i64 a, d, i]) • uQ .i32 d dl • uQ .i32 i il • oK es • F)) : V w0 w (Qv v (es ++ [⟨a, d, dl, i, il⟩]) • F) := by
  have h1 : V w0 w (uQ .i32 d dl • uQ .i32 i il • oK es • Row 143 3 v (es.length + 1) (es.flatMap gJ.enc ++ [.int .i64 a, d, i]) • F) := H.of_eq (by ac_rfl)
  have h2 : V w0 w (edK ⟨a, d, dl, i, il⟩ • oK es • Row 143 3 v (es.length + 1) (es.flatMap gJ.enc ++ [.int .i64 a, d, i]) • F) := h1.I5 (xJ (fun I h g => ⟨h, g⟩) _)
  have h3 : V w0 w (oK (es ++ [⟨a, d, dl, i, il⟩]) • Row 143 3 v (es.length + 1) (es.flatMap gJ.enc ++ [.int .i64 a, d, i]) • F) := h2.I5 (xJ (fun I h g => g.app (PZ.one h)) _)
  refine V.deep (h3.swap.of_eq ?_)
  rw [List.length_append, List.flatMap_append]
  simp [gJ.enc]
theorem V.yE (H : V w0 w (Qv v es • F)) : V w0 w (Jm v es • F) := by
  have hl := H.edL.Ea
  have H := H.edL
  rcases H.Bg with ⟨a, rfl, h1, h2, H1⟩ | ⟨g, o, c, cur, rfl, h2, h3, h4, h5, H1⟩
  · refine H1.I5 (qH (fun I hI => ⟨⟨hl, a, 0, by rw [h1], by omega, by decide, fun h => by omega⟩, hI⟩) F)
  · exact H1.freeze.I5 (xJ (fun I hI hE => ⟨⟨hl, _, c, rfl, h2, h3, fun _ => ⟨g, o, cur, _, (0, 0), rfl, hI, h5⟩⟩, hE⟩) F)
theorem V.yU (H : V w0 w (Jm v es • F)) : Rd w 3 v es.length (es.flatMap gJ.enc) := let ⟨I, h, hI⟩ := H.zx; h.1.rd hI
theorem V.ai1 (H : V w0 w (Jm v es • F)) {k : Nat} (hk : k < es.length) : mP w .i32 (es.getD k default).d (es.getD k default).dl := let ⟨I, h, hI⟩ := H.zx; (h.2 k hk).1.rd hI
theorem V.ai2 (H : V w0 w (Jm v es • F)) {k : Nat} (hk : k < es.length) : mP w .i32 (es.getD k default).i (es.getD k default).il := let ⟨I, h, hI⟩ := H.zx; (h.2 k hk).2.rd hI
theorem V.X0 (H : V w0 w (vW gs • F)) {k : Nat} (hk : k < gs.length) : V w0 w (Jm (gs.getD k default).1 (gs.getD k default).2 • vW gs • F) := H.zU.I5 (qH (fun I h => h k hk) _)
theorem V.Rk (H : V w0 w (vW gs • F)) (n : Nat) : V w0 w (vW (gs.take n) • F) := H.I5 (qH (fun I h => h.take n) _)
theorem V.Az (H : V w0 w (Row 56 1 v (gs.length + 1) (gs.map (·.1) ++ [u]) • Jm u es • vW gs • F)) : V w0 w (LM v (gs ++ [(u, es)]) • F) := by
  have h1 : V w0 w (Jm u es • vW gs • Row 56 1 v (gs.length + 1) (gs.map (·.1) ++ [u]) • F) := H.of_eq (by ac_rfl)
  have h3 : V w0 w (vW (gs ++ [(u, es)]) • Row 56 1 v (gs.length + 1) (gs.map (·.1) ++ [u]) • F) := h1.I5 (xJ (fun I h g => g.app (LK.one h)) _)
  refine V.deep (h3.swap.of_eq ?_)
  rw [List.length_append, List.map_append]
  rfl
theorem V.MR (H : V w0 w (oK es • F)) : ∀ x ∈ es.flatMap gJ.enc, x.oneCell' = true := by
  obtain ⟨I, h, hI⟩ := H.zx
  intro x hx
  obtain ⟨e, he, hx⟩ := List.mem_flatMap.1 hx
  obtain ⟨k, hk, rfl⟩ := List.getElem_of_mem he
  have := h k hk
  rw [List.getD_eq_getElem?_getD, List.getElem?_eq_getElem hk] at this
  simp [gJ.enc] at hx
  rcases hx with rfl | rfl | rfl
  · rfl
  · exact this.1.aby
  · exact this.2.aby
end
end Go.Proofs.YtnhhmieghbfalaaGreatDoor
end
section
namespace Go.Proofs.YtnhhmieghbfalaaGreatDoor
open Go.RowKit
open _root_.Go.Proofs.Tryz
abbrev rM := ByteArray × Int
def qI (x : rM) : List Value := [.string x.1, .int .i64 x.2]
theorem Ey (x : rM) : (qI x).length = 2 := rfl
def af2 (x : rM) : Prop := x.1.size ≤ 16384 ∧ 0 ≤ x.2
def HOk (hl : List rM) (base most : Int) : Prop := hl.length ≤ 4096 ∧ 1 ≤ base ∧ base ≤ 4611686018427387904 ∧ (hl.length : Int) ≤ most ∧ most ≤ 4096 ∧ ∀ x ∈ hl, af2 x
def jM (p : Nat) (hl : List rM) (base most : Int) : HP := BK fun (v : Value) => fact (HOk hl base most) • gU p (.cells #[v, .int .i64 base, .int .i64 most] 119 (0, 0)) • Row 157 2 v hl.length (hl.flatMap qI)
section
variable {P : Program} {L : List (Nat × Value)} {w0 w : World} {F : HP} {ty : TypeId} {p : Nat} {hl : List rM} {base most : Int} {v : Value}
theorem Rl {t e sz : Nat} {z : Value} (H : V w0 w F) (ht : P.underlying t = some (.slice e)) (hs : ∀ w, (sizeOf e).run P w = .ok sz w) (hz : ∀ w, (zeroValue e).run P w = .ok z w) :
    Dj P L (.buildSlice t 0 #[]) ty w fun v w' => V w0 w' (Row e sz v 0 [] • F) := by
  refine BP (v := .slice (some ⟨w.heap.size, 0, none⟩) 0 0) (w' := w.alloc (.cells #[] e)) ?_ ?_
  · intro ρ hρ d pos xw g
    simp only [execOp, Instr.buildSlice, Sem.run_bind, run_underlying ht, Result.andThen_ok, hs]
    have h0 : Array.map (fun (_ : Nat) => (default : Value)) (Array.range 0) = #[] := Array.eq_empty_of_size_eq_zero (by simp)
    simp [Instr.fill, newRow, h0]
  · exact (H.alloc _).right.iV _
theorem V.hist (H : V w0 w (jM p hl base most • F)) : ∃ v, HOk hl base most ∧ V w0 w (gU p (.cells #[v, .int .i64 base, .int .i64 most] 119 (0, 0)) • Row 157 2 v hl.length (hl.flatMap qI) • F) := by
  obtain ⟨v, H⟩ := H.sS
  obtain ⟨h, H⟩ := H.flat.fact
  exact ⟨v, h, H.flat⟩
theorem V.Kt (h : HOk hl base most) (H : V w0 w (gU p (.cells #[v, .int .i64 base, .int .i64 most] 119 (0, 0)) • Row 157 2 v hl.length (hl.flatMap qI) • F)) : V w0 w (jM p hl base most • F) :=
  V.lK v (V.deep (V.qY h H.deep))
theorem MS {hl : List rM} : ∀ x ∈ hl.flatMap qI, x.oneCell' = true := by
  intro x hx
  obtain ⟨e, _, hx⟩ := List.mem_flatMap.1 hx
  simp [qI] at hx
  rcases hx with rfl | rfl <;> rfl
theorem af3 : (prog.info? 157).map (fun i => (i.zero, i.size, i.bytes)) = some (some (.agg #[.string .empty, .int .i64 0]), 2, 24) := by kernel_rfl
theorem MV (H : V w0 w F) (hr : Ht w0 F 2 v hl.length (hl.flatMap qI)) (hb : hl.length ≤ 1099511627776) :
    iK prog 129 #[v] w fun v' w' => V w0 w' (Row 157 2 v' hl.length (hl.flatMap qI) • F) := by
  obtain ⟨hlen, a, c, rfl, h1, h2, h3⟩ := hr w H
  refine jl func129 ntmps129 ?_
  refine kG O (aI (bT O (aT (Jr dN O O) ?_)))
  refine jo O (fun h1 => ?_) (fun h1 => ?_)
  · (try simp only [aG] at h1)
    refine jE O (aC (dO results129 O ?_))
    obtain rfl : a = none := by simpa using h1
    obtain rfl : hl = [] := by
      cases hl with
      | nil => rfl
      | cons x l => obtain ⟨b, o, e, _⟩ := h3 (by simp); cases e
    exact H.iV none
  · (try simp only [aG] at h1)
    refine gX (kQ (jT (Rl H dN ni wY) ?_))
    rintro _ w1 H1
    refine cO O (jT (gK H1 dN af3 O O O (hr.under _ H1) MS (by omega) (by omega)) ?_)
    rintro _ w2 H2
    refine iJ O (dO results129 O ?_)
    exact H2.of_eq (by rw [Nat.zero_add, List.nil_append])
theorem F5 (H : V w0 w (jM p hl base most • F)) : iK prog 128 #[.pointer (some ⟨p, 0, none⟩)] w fun v w' => v = .bool false ∧ w = w' := by
 refine jl func128 ntmps128 ?_
 refine kG O (aI ?_)
 obtain ⟨VY, AY, Dp⟩ := (H).hist
 refine aF (cO O (aT (oQ oL O O) (nS O (fun h1 => ?_) (fun h1 => ?_))))
 ·(try simp only [aG] at h1)
  exfalso; first | contradiction | omega
 ·(try simp only [aG] at h1)
  refine bJ (cO O (bJ (dM O (bJ (bg 0 jQ O pO O (bJ (bg 1 jR O nC O (bJ (dQ nD O (Dp).get.2 O (bJ (aT (fA O O) (kP O O (iJ O (dO results128 O ?_))))))))))))))
  exact ⟨by rw [show (base == 0) = false from by rw [beq_eq_false_iff_ne]; have := AY.2.1; omega], O⟩
theorem Ig {n : Int} (H : V w0 w F) (hn : 0 ≤ n ∧ n ≤ 4096) : iK prog 19 #[.int .i64 n] w fun v w' => ∃ p, v = .tuple #[.pointer (some ⟨p, 0, none⟩), .int .i64 0] ∧ V w0 w' (jM p [] 1 n • F) := by
  refine jl func19 ntmps19 ?_
  refine kQ (lg O (vI O (bT O (aT (fJ O O) (nS O (fun h1 => ?_) (fun h1 => ?_))))))
  · (try simp only [aG] at h1)
    exfalso; first | contradiction | omega
  · (try simp only [aG] at h1)
    refine bJ (cO O (bJ (aT (fZ O O) (kP O O (jo O (fun h2 => ?_) (fun h2 => ?_))))))
    · (try simp only [aG] at h2)
      exfalso; first | contradiction | omega
    · (try simp only [aG] at h2)
      refine gX (bT O (aT (kS (pl := #[(0, 1), (1, 1), (2, 1)]) (#[_, _, _]) jR zeroValue117 (fun w => by kernel_rfl) O (O)) (aT (kS (pl := #[(0, 3)]) (#[_, _, _]) jQ zeroValue119 (fun w => by kernel_rfl) O (O)) (jT (kZ (l := [_, _, _]) H O O) ?_))))
      rintro _ w1 ⟨b1, rfl, H1⟩
      refine lg O (iJ O (Fp results19 O O ?_))
      exact ⟨_, O, V.Kt (v := .slice none 0 0) ⟨by simp, by decide, by decide, by simp; omega, by omega, by simp⟩ ((H1.iV none).swap)⟩
theorem vX (H : V w0 w (jM p hl base most • F)) : iK prog 131 #[.pointer (some ⟨p, 0, none⟩)] w fun v w' => v = .int .i64 hl.length ∧ V w0 w' (jM p hl base most • F) := by
 refine jl func131 ntmps131 ?_
 refine kG O (aI (bT O (fH O func128 (F5 H) ?_)))
 rintro _ _ ⟨rfl, rfl⟩
 refine iR (yh (gX (aI ?_)))
 obtain ⟨VY, AY, Dp⟩ := (H).hist
 refine aF (kY O O (bg 0 jQ O pO O (bg 0 jR O lN O (dQ dN O (Dp).get.2 O (aT (fV ((Dp.f2).aJ) dN O) (iJ O (dO results131 O ?_)))))))
 have Rn := Dp.f2.f2
 have O6 := V.Kt AY Rn
 exact ⟨O, O6⟩
theorem Bl (H : V w0 w (jM p hl base most • F)) : iK prog 63 #[.pointer (some ⟨p, 0, none⟩)] w fun v w' => ∃ q, v = .pointer (some ⟨q, 0, none⟩) ∧ V w0 w' (jM q hl base most • jM p hl base most • F) := by
 refine jl func63 ntmps63 ?_
 refine kG O (aI (bT O (fH O func128 (F5 H) ?_)))
 rintro _ _ ⟨rfl, rfl⟩
 refine iR (yh (gX (aI ?_)))
 obtain ⟨VY, AY, Dp⟩ := (H).hist
 have hcl := AY.1
 have Jl := Dp.drew
 have jX := V.kp (Jl.f2.f2)
 refine tH [4, 10, 15] jX O (fM 0 O jX O (jF 1 O jX O (eP 2 O jX 0 jQ O pO O (eP 3 O jX 0 jR O lN O (iD 4 O jX (fun W hW => jk dN O ((Kp.h hW)).get.2 O) (fM 6 O jX O (jF 7 O jX O (eP 8 O jX 0 jQ O pO O (eP 9 O jX 1 jR O nC O (iD 10 O jX (fun W hW => jk nD O ((Kp.h hW)).get.2 O) (fM 11 O jX O (jF 12 O jX O (eP 13 O jX 0 jQ O pO O (eP 14 O jX 2 jR O ah O (iD 15 O jX (fun W hW => jk ay O ((Kp.h hW)).get.2 O) (lC 5 O (qW O func129 (MV Jl (fun W HW => (HW.f2).aJ) (by omega))) ?_))))))))))))))))
 rintro u3 w3 H3
 have lW := V.kp (H3.f3.f3.f3)
 refine dZ lW (fun W hW => (Kp.h hW).right.f2.f2) ?_
 obtain ⟨au3, cu3, eu3, -⟩ := ((H3).aJ).form
 subst eu3
 refine iE 16 O lW (fun _ => kS (pl := #[(0, 1), (1, 1), (2, 1)]) (#[_, _, _]) jR zeroValue117 (fun w => by kernel_rfl) O (O)) (iE 17 O lW (fun _ => kS (pl := #[(0, 3)]) (#[_, _, _]) jQ zeroValue119 (fun w => by kernel_rfl) O (O)) (lC 18 O (kZ (l := [_, _, _]) H3 O O) ?_))
 rintro _ w4 ⟨b4, rfl, H4⟩
 have ng := V.kp (H4.f4.f4.f4.f4)
 refine dX ng (by kernel_rfl) ?_
 refine iE 19 O ng (fun _ => eH O) (oH (aZ (kN (dO results63 O ?_))))
 have LP := H4.f4.f4
 have Ih := V.Kt AY LP
 exact ⟨_, O, V.Kt AY Ih.f3.f3⟩
end
def BL (l : List rM) : Int := if l.any (fun x => decide (16384 < x.1.size)) then 3 else if l.any (fun x => decide (x.2 < 0)) then 1 else 0
theorem adN {l : List rM} {k : Nat} (hk : k < l.length) : l.getD k default ∈ l := by rw [List.getD_eq_getElem?_getD, List.getElem?_eq_getElem hk]; exact List.getElem_mem hk
theorem adO {l : List rM} {p : rM → Prop} (h : ∀ k, k < l.length → p (l.getD k default)) : ∀ x ∈ l, p x := by
  intro x hx
  obtain ⟨k, hk, rfl⟩ := List.getElem_of_mem hx
  have := h k hk
  rwa [List.getD_eq_getElem?_getD, List.getElem?_eq_getElem hk] at this
theorem U4 {l : List rM} {k : Nat} (hk : k < l.length) (h : (16384 : Int) < (l.getD k default).1.size) : BL l = 3 := by
  unfold BL
  rw [if_pos (List.any_eq_true.2 ⟨_, adN hk, decide_eq_true (by omega)⟩)]
theorem Ro {l : List rM} (h1 : ∀ k, k < l.length → ¬ (16384 : Int) < (l.getD k default).1.size) : BL l = if l.any (fun x => decide (x.2 < 0)) then 1 else 0 := by
  unfold BL
  rw [if_neg]
  intro c
  obtain ⟨x, hx, hd⟩ := List.any_eq_true.1 c
  have := adO (p := fun x => ¬ (16384 : Int) < x.1.size) h1 x hx
  simp at hd; omega
theorem X3 {l : List rM} (h1 : ∀ k, k < l.length → ¬ (16384 : Int) < (l.getD k default).1.size) {k : Nat} (hk : k < l.length) (h : (l.getD k default).2 < 0) : BL l = 1 := by
  rw [Ro h1, if_pos (List.any_eq_true.2 ⟨_, adN hk, by simpa using h⟩)]
theorem abz {l : List rM} (h1 : ∀ k, k < l.length → ¬ (16384 : Int) < (l.getD k default).1.size) (h2 : ∀ k, k < l.length → ¬ (l.getD k default).2 < 0) : BL l = 0 := by
  rw [Ro h1, if_neg]
  intro c
  obtain ⟨x, hx, hd⟩ := List.any_eq_true.1 c
  exact adO (p := fun x => ¬ x.2 < 0) h2 x hx (by simpa using hd)
theorem adP {l : List rM} (h : BL l = 0) : ∀ x ∈ l, af2 x := by
  intro x hx
  unfold BL at h
  split at h
  · simp at h
  · rename_i h1
    split at h
    · simp at h
    · rename_i h2
      simp only [List.any_eq_true, not_exists, not_and, decide_eq_true_eq] at h1 h2
      exact ⟨by have := h1 x hx; omega, by have := h2 x hx; omega⟩
theorem Qw (l : List rM) (n : Nat) : (l.flatMap qI).drop (n * 2) = (l.drop n).flatMap qI := by
  induction l generalizing n with
  | nil => simp
  | cons x l ih =>
    cases n with
    | zero => simp
    | succ n => rw [show (n + 1) * 2 = n * 2 + 2 from by omega, List.flatMap_cons, List.drop_succ_cons, ← ih n]; simp [qI, List.drop_append]
theorem abA (l : List rM) : (l.flatMap qI).length = l.length * 2 := by induction l with
  | nil => rfl
  | cons x l ih => rw [List.flatMap_cons, List.length_append, ih, Ey, List.length_cons]; omega
theorem af4 {W : World} {v : Value} {l : List rM} {n : Nat} (h : Rd W 2 v l.length (l.flatMap qI)) (hn : n ≤ l.length) : Rd W 2 (xI 2 n l.length v) (l.drop n).length ((l.drop n).flatMap qI) := by
  have h1 := h.cut hn (Nat.le_refl _)
  rw [List.take_of_length_le (by rw [Qw, abA]; simp), Qw] at h1
  rwa [List.length_drop]
section
variable {P : Program} {L : List (Nat × Value)} {w0 w : World} {F : HP} {p : Nat} {hl l : List rM} {base most : Int} {v : Value}
theorem VZ (H : V w0 w F) (hv : Ht w0 F 2 v l.length (l.flatMap qI)) (hb : l.length ≤ 35184372087808) : iK prog 132 #[v] w fun v' w' => v' = .int .i64 (BL l) ∧ V w0 w' F := by
 refine jl func132 ntmps132 ?_
 refine kG O (aI (bT O (aT (fV (hv _ (H)) dN O) (cO O (iR (bK ?_))))))
 refine jh [(0, _), (7, _), (8, _)] (fun (k : Nat) => [(9, .int .i64 (k : Int))]) (fun (k : Nat) W => (k ≤ l.length ∧ ∀ i, i < k → ¬ (16384 : Int) < (l.getD i default).1.size) ∧ V w0 W F) (fun (k : Nat) => l.length - k) (0) DK rJ ⟨⟨by omega, fun i hi => absurd hi (by omega)⟩, H⟩ ?_
 rintro k w1 ⟨⟨hk, hsh⟩, HL⟩
 dsimp only [List.cons_append, List.nil_append]
 refine kQ (aT (fJ O O) (uV (dw O (fun h1 => ?_) (fun h1 => ?_))))
 ·(try simp only [aG] at h1)
  refine gX (aI (bK (aI ?_)))
  have hkl : k < l.length := by omega
  refine aF ?_
  obtain ⟨bv, ov, cv, ev⟩ := Rd.qX (hv _ (HL)) (by omega)
  cases ev
  refine aT (dP dN ni O O (by omega)) (aT (mF (ys := [_, _]) (hv _ (HL)) (by omega) kW O ni O (mY Ey (by omega) default) O) (jT (iI (l := [_, _]) HL wY O) ?_))
  rintro _ w2 ⟨b2, rfl, H2⟩
  refine aH (dR 0 (l' := [_, _]) (us := [_, _]) H2 ni O O O (aP (aP bW)) O O) ?_
  rintro _ w3 H3
  refine zk7 (bg 0 kW O oM O (dQ iW O (H3).get.2 O (aT (Og iW O) (aT (fZ O O) (jo O (fun h2 => ?_) (fun h2 => ?_))))))
  ·(try simp only [aG] at h2)
   have hkb := h2
   refine jE O (aY (aC (aC (aY (aC (dO results132 O ?_))))))
   exact ⟨by rw [U4 hkl hkb], H3.right⟩
  ·(try simp only [aG] at h2)
   have hks : ¬ (16384 : Int) < (l.getD k default).1.size := by have h9 := h2; omega
   refine eG (aS (aZ (aF (aT (gY O O (by omega)) (cO O (dJ ?_))))))
   refine fG (k + 1) ?_ ?_ ?_ ?_
   ·exact rJ
   ·exact DK
   ·(try dsimp only)
    first | done | exact ⟨⟨by omega, fun i hi => (show i < k ∨ i = k from by omega).elim (hsh i) (fun c => c ▸ hks)⟩, H3.right⟩
   ·(try dsimp only); omega
 ·(try simp only [aG] at h1)
  refine iZ (bC (bC (dK (aZ (aI (aI ?_))))))
  obtain rfl : k = l.length := by omega
  refine aF (cO O (aT (fV (hv _ (HL)) dN O) (cO O (iR (bK ?_)))))
  refine jh [(18, _), (19, _)] (fun (k2 : Nat) => [(20, .int .i64 (k2 : Int))]) (fun (k2 : Nat) W => (k2 ≤ l.length ∧ ∀ i, i < k2 → ¬ (l.getD i default).2 < 0) ∧ V w0 W F) (fun (k2 : Nat) => l.length - k2) (0) vV rJ ⟨⟨by omega, fun i hi => absurd hi (by omega)⟩, HL⟩ ?_
  rintro k2 w4 ⟨⟨hk2, hpo⟩, HL2⟩
  dsimp only [List.cons_append, List.nil_append]
  refine kQ (aT (fJ O O) (uV (dw O (fun h3 => ?_) (fun h3 => ?_))))
  ·(try simp only [aG] at h3)
   refine gX (aI (bK (aI ?_)))
   have hkl2 : k2 < l.length := by omega
   refine aF ?_
   obtain ⟨bv, ov, cv, ev⟩ := Rd.qX (hv _ (HL2)) (by omega)
   cases ev
   refine aT (dP dN ni O O (by omega)) (aT (mF (ys := [_, _]) (hv _ (HL2)) (by omega) kW O ni O (mY Ey (by omega) default) O) (jT (iI (l := [_, _]) HL2 wY O) ?_))
   rintro _ w5 ⟨b5, rfl, H5⟩
   refine aH (dR 0 (l' := [_, _]) (us := [_, _]) H5 ni O O O (aP (aP bW)) O O) ?_
   rintro _ w6 H6
   refine zk7 (bg 1 kW O nC O (dQ nD O (H6).get.2 O (aT (fJ O O) (jo O (fun h4 => ?_) (fun h4 => ?_)))))
   ·(try simp only [aG] at h4)
    have hkn := h4
    refine jE O (aY (aC (aC (aY (aC (dO results132 O ?_))))))
    exact ⟨by rw [X3 hsh hkl2 hkn], H6.right⟩
   ·(try simp only [aG] at h4)
    have hkp : ¬ (l.getD k2 default).2 < 0 := by have h9 := h4; omega
    refine eG (aS (aZ (aF (aT (gY O O (by omega)) (cO O (dJ ?_))))))
    refine fG (k2 + 1) ?_ ?_ ?_ ?_
    ·exact rJ
    ·exact vV
    ·(try dsimp only)
     first | done | exact ⟨⟨by omega, fun i hi => (show i < k2 ∨ i = k2 from by omega).elim (hpo i) (fun c => c ▸ hkp)⟩, H6.right⟩
    ·(try dsimp only); omega
  ·(try simp only [aG] at h3)
   refine iZ (bC (bC (dK (aZ (aI ?_)))))
   obtain rfl : k2 = l.length := by omega
   refine aF (iJ O (dO results132 O ?_))
   exact ⟨by rw [abz hsh hpo], HL2⟩
def xK (hl : List rM) (most : Int) : Nat := hl.length - most.toNat
theorem Oq (H : V w0 w (gU p (.cells #[v, .int .i64 base, .int .i64 most] 119 (0, 0)) • Row 157 2 v hl.length (hl.flatMap qI) • F)) (hm : 0 ≤ most ∧ most ≤ 4096) (hb : 1 ≤ base ∧ base ≤ 2305843009213693952) (hn : hl.length ≤ 70368744177664) :
  iK prog 133 #[.pointer (some ⟨p, 0, none⟩)] w fun _ w' => ∃ v', V w0 w' (gU p (.cells #[v', .int .i64 (base + xK hl most), .int .i64 most] 119 (0, 0)) • Row 157 2 v' (hl.drop (xK hl most)).length ((hl.drop (xK hl most)).flatMap qI) • F) := by
 refine jl func133 ntmps133 ?_
 refine aI ?_
 have aco := H.drew
 have FD := V.kp (aco.f2.f2)
 refine tH [4, 10] FD O (fM 0 O FD O (jF 1 O FD O (eP 2 O FD 0 jQ O pO O (eP 3 O FD 0 jR O lN O (iD 4 O FD (fun W hW => jk dN O ((Kp.h hW)).get.2 O) (iE 5 O FD (fun _ => fV ((aco.f2).aJ) dN O) (fM 6 O FD O (jF 7 O FD O (eP 8 O FD 0 jQ O pO O (eP 9 O FD 2 jR O ah O (iD 10 O FD (fun W hW => jk ay O ((Kp.h hW)).get.2 O) (iE 11 O FD (fun _ => nN O O (by omega)) (iE 12 O FD (fun _ => eH O) (oH (aZ (bT O (aT (fZ O O) (jo O (fun h1 => ?_) (fun h1 => ?_)))))))))))))))))))
 ·(try simp only [aG] at h1)
  have hk : (xK hl most : Int) = (hl.length : Int) - most := by have h9 := h1; unfold xK; omega
  refine bT O (kY O O (bg 0 jQ O pO O (bg 0 jR O lN O (dQ dN O (aco).get.2 O (cO O (aT (rP ((aco.f2).aJ) dN ni O O O (by omega)) ?_))))))
  refine fH O func129 (MV (hl := hl.drop (xK hl most)) aco (fun W HW => by rw [show ((hl.length : Int) - most).toNat = xK hl most from by omega, show ((hl.length : Nat) : Int).toNat = hl.length from by omega]; exact af4 HW.f2.aJ (by unfold xK; omega)) (by rw [List.length_drop]; unfold xK; omega)) ?_
  rintro u1 w1 H1
  refine dM O (bg 0 jQ O pO O (bg 0 jR O lN O (aH (iw 0 (l' := [_, _, _]) H1.f2 lN O O (by first | rfl | exact Rd.one ((H1).aJ)) O O) ?_)))
  rintro _ w2 H2
  refine iR (aF (kY O O (bg 0 jQ O pO O (bg 1 jR O nC O (dQ nD O (H2).get.2 O (cO O (aT (gY O O (by omega)) (dM O (bg 0 jQ O pO O (bg 1 jR O nC O (aH (st3 1 H2 nC) ?_)))))))))))
  rintro _ w3 H3
  refine dJ (nJ (.inr O) results133 ?_)
  exact ⟨_, by rw [hk]; exact H3.f3.right.f2.f2⟩
 ·(try simp only [aG] at h1)
  have hk : xK hl most = 0 := by have h9 := h1; unfold xK; omega
  refine eG (nJ (.inr O) results133 ?_)
  exact ⟨_, by rw [hk]; simpa using aco⟩
theorem agV {hl l : List rM} {base most : Int} (h : HOk hl base most) (hb : hl.length + l.length ≤ 5864062014805) (hm : BL l = 0) (hbase : base ≤ 1152921504606846976) : HOk ((hl ++ l).drop (xK (hl ++ l) most)) (base + xK (hl ++ l) most) most := by
  obtain ⟨h1, h2, h3, h4, h5, h6⟩ := h
  have hl1 : (hl ++ l).length = hl.length + l.length := List.length_append
  refine ⟨?_, ?_, ?_, ?_, h5, fun x hx => ?_⟩
  · rw [List.length_drop]; unfold xK; omega
  · omega
  · unfold xK; omega
  · rw [List.length_drop]; unfold xK; omega
  · rcases List.mem_append.1 (List.mem_of_mem_drop hx) with c | c
    · exact h6 x c
    · exact adP hm x c
def V3 (hl : List rM) (most : Int) (l : List rM) : List rM := if BL l = 0 then (hl ++ l).drop (xK (hl ++ l) most) else hl
def V4 (hl : List rM) (base most : Int) (l : List rM) : Int := if BL l = 0 then base + xK (hl ++ l) most else base
theorem MW (H : V w0 w (jM p hl base most • F)) (hv : Ht w0 F 2 v l.length (l.flatMap qI)) (hb : hl.length + l.length ≤ 5864062014805) (hbase : base ≤ 1152921504606846976) :
  iK prog 68 #[.pointer (some ⟨p, 0, none⟩), v] w fun v' w' => v' = .int .i64 (BL l) ∧ V w0 w' (jM p (V3 hl most l) (V4 hl base most l) most • F) := by
 refine nO func68 ntmps68 ?_
 refine kG O (aI (bT O (fH O func128 (F5 H) ?_)))
 rintro _ _ ⟨rfl, rfl⟩
 refine iR (yh (gX (aI (bT O (fH O func132 (VZ H (fun W HW => hv _ (HW.right)) (by omega)) ?_)))))
 rintro _ w2 ⟨rfl, H2⟩
 refine iU O (bT O (aT (fF O O) (jo O (fun h1 => ?_) (fun h1 => ?_))))
 ·(try simp only [aG] at h1)
  have hm := h1
  refine bT O (iJ O (aC (dO results68 O ?_)))
  exact ⟨O, by unfold V3 V4; rw [if_neg hm, if_neg hm]; exact H2⟩
 ·(try simp only [aG] at h1)
  have hm : BL l = 0 := h1
  refine gX (aI ?_)
  obtain ⟨VY, AY, Dp⟩ := (H2).hist
  have hkl := AY.1
  have hon := @MS l
  refine aF (ku O O (dM O (bg 0 jQ O pO O (bg 0 jR O lN O (dQ dN O (Dp).get.2 O (cO O (jT (gK Dp.f2 dN V5 O O O (hv _ (Dp.right.right)) (by assumption) (by omega) (by omega)) ?_)))))))
  rintro l4 w4 H4
  refine dM O (bg 0 jQ O pO O (bg 0 jR O lN O (aH (iw 0 (l' := [_, _, _]) H4.f2 lN O O (by first | rfl | exact Rd.one ((H4).aJ)) O O) ?_)))
  rintro _ w5 H5
  refine qG O (fH O func133 (Oq (hl := hl ++ l) (by rw [List.flatMap_append, List.length_append]; exact H5.f2.f2) ⟨by have := AY.2.2.2.1; omega, AY.2.2.2.2.1⟩ ⟨AY.2.1, by omega⟩ (by have := AY.1; rw [List.length_append]; omega)) ?_)
  rintro _ w6 ⟨v2, H6⟩
  refine iR (jE O (dO results68 O ?_))
  exact ⟨by rw [hm], by unfold V3 V4; rw [if_pos hm, if_pos hm]; exact V.Kt (agV AY hb hm hbase) H6⟩
theorem Ud {n : Int} (H : V w0 w F) (hn : 0 ≤ n ∧ n ≤ 4096) (hv : Ht w0 F 2 v l.length (l.flatMap qI)) (hb : l.length ≤ 5864062014805) (hm : BL l ≠ 0) : iK prog 15 #[.int .i64 n, v] w fun v' w' =>
    v' = .tuple #[.pointer none, .int .i64 (BL l)] ∧ V w0 w' F := by
  refine nO func15 ntmps15 ?_
  refine kQ (lg O (iU O (bT O (fH O func19 (Ig H (by omega)) ?_))))
  rintro _ w1 ⟨p1, rfl, H1⟩
  refine cO O (xY O O (xY O O (lg O (vI O (bT O (aT (fF O O) (iR (Kq O (fun h1 => ?_)))))))))
  (try simp only [aG] at h1)
  refine gX (aI (bT O (cO O (fH O func68 (MW H1 hv (by simp; omega) (by decide)) ?_))))
  rintro _ w2 ⟨rfl, H2⟩
  refine iU O (bT O (aT (fF O O) (jo O (fun h2 => ?_) (fun h => by exfalso; (try simp only [aG] at h); exact hm h))))
  (try simp only [aG] at h2)
  refine bT O (lg O (iJ O (aC (Fp results15 O O ?_))))
  exact ⟨O, H2.right⟩
theorem Rq {n : Int} (H : V w0 w F) (hn : 0 ≤ n ∧ n ≤ 4096) (hv : Ht w0 F 2 v l.length (l.flatMap qI)) (hb : l.length ≤ 5864062014805) (hm : BL l = 0) : iK prog 15 #[.int .i64 n, v] w fun v' w' =>
    ∃ p, v' = .tuple #[.pointer (some ⟨p, 0, none⟩), .int .i64 0] ∧ V w0 w' (jM p (V3 [] n l) (V4 [] 1 n l) n • F) := by
  refine nO func15 ntmps15 ?_
  refine kQ (lg O (iU O (bT O (fH O func19 (Ig H (by omega)) ?_))))
  rintro _ w1 ⟨p1, rfl, H1⟩
  refine cO O (xY O O (xY O O (lg O (vI O (bT O (aT (fF O O) (iR (Kq O (fun h1 => ?_)))))))))
  (try simp only [aG] at h1)
  refine gX (aI (bT O (cO O (fH O func68 (MW H1 hv (by simp; omega) (by decide)) ?_))))
  rintro _ w2 ⟨rfl, H2⟩
  refine iU O (bT O (aT (fF O O) (jo O (fun h => by exfalso; (try simp only [aG] at h); exact h hm) (fun h2 => ?_))))
  (try simp only [aG] at h2)
  refine gX (bT O (lg O (iJ O (Fp results15 O O ?_))))
  exact ⟨_, O, H2⟩
end
def adQ (l : List rM) : List rM := V3 [] 4096 l
def adR (l : List rM) : Int := V4 [] 1 4096 l
theorem KF.cut {I : Hp} {v : Value} {sz n : Nat} {xs : List Value} (hr : KF I sz v n xs) {l h : Nat} (h1 : l ≤ h) (h2 : h ≤ n) : KF I sz (xI sz l h v) (h - l) ((xs.drop (l * sz)).take ((h - l) * sz)) := by
  obtain ⟨hl, a, c, rfl, hc1, hc2, hc⟩ := hr
  refine ⟨?_, LH a l c sz, c - l, rfl, by omega, by omega, fun hp => ?_⟩
  · rw [List.length_take, List.length_drop, hl, ← Nat.sub_mul]
    exact Nat.min_eq_left (Nat.mul_le_mul_right _ (by omega))
  · obtain ⟨b, o, cs, e, fr, rfl, hI, hcell⟩ := hc (by omega)
    have : ¬ c = l := by omega
    refine ⟨b, o + l * sz, cs, e, fr, by simp [LH, this, Ci], hI, fun j hj => ?_⟩
    have e1 : l * sz + (h - l) * sz = h * sz := by rw [← Nat.add_mul]; congr 1; omega
    have e2 : h * sz ≤ n * sz := Nat.mul_le_mul_right _ h2
    have := hcell (l * sz + j) (by omega)
    rw [Nat.add_assoc, this, List.getD_eq_getElem?_getD, List.getD_eq_getElem?_getD, List.getElem?_take, if_pos hj, List.getElem?_drop]
theorem Rd.ai3 {w : World} {v : Value} {sz n : Nat} {xs : List Value} (hr : Rd w sz v n xs) {i : Nat} (h : i ≤ n) : Rd w sz (xI sz i n v) (n - i) (xs.drop (i * sz)) := by
  have h1 := hr.cut h (Nat.le_refl _)
  rwa [List.take_of_length_le (by rw [List.length_drop, hr.len, ← Nat.sub_mul]; exact Nat.le_refl _)] at h1
def hlK (v : Value) (l : List rM) : HP := know (fun I => KF I 2 v l.length (l.flatMap qI)) fun _ _ hl h => h.mono hl
def jS (p : Nat) (hl : List rM) (base most : Int) : HP := BK fun (v : Value) => fact (HOk hl base most) • gU p (.cells #[v, .int .i64 base, .int .i64 most] 163 (0, 0)) • hlK v hl
section
variable {P : Program} {L : List (Nat × Value)} {w0 w : World} {F : HP} {p : Nat} {hl l : List rM} {base most : Int} {v : Value}
theorem V.EO (H : V w0 w (hlK v l • F)) : Rd w 2 v l.length (l.flatMap qI) := let ⟨I, h, hI⟩ := H.zx; h.rd hI
theorem V.Ot (H : V w0 w (Row 157 2 v l.length (l.flatMap qI) • F)) : V w0 w (hlK v l • F) := by
  have hl := H.Ea
  rcases H.Bg with ⟨a, rfl, h1, h2, H1⟩ | ⟨g, o, c, cur, rfl, h2, h3, h4, h5, H1⟩
  · exact H1.Eb fun I => ⟨hl, a, 0, by rw [h1], by omega, by decide, fun h => by omega⟩
  · exact H1.freeze.I5 (qH (fun I hI => ⟨hl, _, c, rfl, h2, h3, fun _ => ⟨g, o, cur, _, (0, 0), rfl, hI, h5⟩⟩) F)
theorem V.af5 (H : V w0 w (hlK v l • F)) (h : 1 ≤ l.length) : V w0 w (hlK (xI 2 1 l.length v) (l.drop 1) • F) := H.I5 (qH (fun I hI => by
  have h1 := hI.cut h (Nat.le_refl _)
  rw [List.take_of_length_le (by rw [Qw, abA]; simp), Qw] at h1
  rwa [List.length_drop]) F)
theorem V.FH (H : V w0 w (jS p hl base most • F)) : ∃ v, HOk hl base most ∧ V w0 w (gU p (.cells #[v, .int .i64 base, .int .i64 most] 163 (0, 0)) • hlK v hl • F) := by
  obtain ⟨v, H⟩ := H.sS
  obtain ⟨h, H⟩ := H.flat.fact
  exact ⟨v, h, H.flat⟩
theorem V.Bo (h : HOk hl base most) (H : V w0 w (gU p (.cells #[v, .int .i64 base, .int .i64 most] 163 (0, 0)) • hlK v hl • F)) : V w0 w (jS p hl base most • F) :=
  V.lK v (V.deep (V.qY h H.deep))
theorem adS {l : List rM} {k : Nat} (hk : k < l.length) : (l.flatMap qI).getD (k * 2 + 0) undef = .string (l.getD k default).1 := by
  have h := congrArg (fun x => x.getD 0 undef) (mY Ey hk default)
  simp only [List.getD_eq_getElem?_getD, List.getElem?_take, List.getElem?_drop] at h ⊢
  exact h
theorem ahy {l : List rM} {k : Nat} (hk : k < l.length) : (l.flatMap qI).getD (k * 2 + 1) undef = .int .i64 (l.getD k default).2 := by
  have h := congrArg (fun x => x.getD 1 undef) (mY Ey hk default)
  simp only [List.getD_eq_getElem?_getD, List.getElem?_take, List.getElem?_drop] at h ⊢
  exact h
theorem Ue (H : V w0 w F) (hv : Ht w0 F 2 v l.length (l.flatMap qI)) (hb : l.length ≤ 35184372087808) : iK prog 134 #[v] w fun v' w' => v' = .int .i64 (BL l) ∧ V w0 w' F := by
 refine jl func134 ntmps134 ?_
 refine kG O (aI (kG O (bK ?_)))
 refine jh [(0, _)] (fun (k : Nat) => [(3, .int .i64 (k : Int))]) (fun (k : Nat) W => (k ≤ l.length ∧ ∀ i, i < k → ¬ (16384 : Int) < (l.getD i default).1.size) ∧ V w0 W F) (fun (k : Nat) => l.length - k) (0) rJ rJ ⟨⟨by omega, fun i hi => absurd hi (by omega)⟩, H⟩ ?_
 rintro k w1 ⟨⟨hk, hsh⟩, HL⟩
 dsimp only [List.cons_append, List.nil_append]
 refine aI (bT O (cO O (aT (fV (hv _ (HL)) dN O) (aT (fJ O O) (jo O (fun h1 => ?_) (fun h1 => ?_))))))
 ·(try simp only [aG] at h1)
  refine gX (aI (bK (aI ?_)))
  have hkl : k < l.length := by omega
  refine aF (ku O O ?_)
  obtain ⟨bv, ov, cv, ev⟩ := Rd.qX (hv _ (HL)) (by omega)
  cases ev
  refine aT (dP dN ni O O (by omega)) (bg 0 kW O oM O (aT (FW (fB (dG iW O) O (Rd.atS (hv _ (HL)) (by omega) (by decide))) (adS hkl)) (aT (Og iW O) (aT (fZ O O) (jo O (fun h2 => ?_) (fun h2 => ?_))))))
  ·(try simp only [aG] at h2)
   have hkb := h2
   refine jE O (aY (aC (aC (aY (aC (dO results134 O ?_))))))
   exact ⟨by rw [U4 hkl hkb], HL⟩
  ·(try simp only [aG] at h2)
   have hks : ¬ (16384 : Int) < (l.getD k default).1.size := by have h9 := h2; omega
   refine eG (aS (aZ (aF (cO O (aT (gY O O (by omega)) (lg O (dJ ?_)))))))
   refine fG (k + 1) ?_ ?_ ?_ ?_
   ·exact rJ
   ·exact rJ
   ·(try dsimp only)
    first | done | exact ⟨⟨by omega, fun i hi => (show i < k ∨ i = k from by omega).elim (hsh i) (fun c => c ▸ hks)⟩, HL⟩
   ·(try dsimp only); omega
 ·(try simp only [aG] at h1)
  refine iZ (bC (bC (dK (aZ (aI (aI ?_))))))
  obtain rfl : k = l.length := by omega
  refine aF (iU O (bK ?_))
  refine jh [(0, _)] (fun (k2 : Nat) => [(4, .int .i64 (k2 : Int))]) (fun (k2 : Nat) W => (k2 ≤ l.length ∧ ∀ i, i < k2 → ¬ (l.getD i default).2 < 0) ∧ V w0 W F) (fun (k2 : Nat) => l.length - k2) (0) rJ rJ ⟨⟨by omega, fun i hi => absurd hi (by omega)⟩, HL⟩ ?_
  rintro k2 w2 ⟨⟨hk2, hpo⟩, HL2⟩
  dsimp only [List.cons_append, List.nil_append]
  refine aI (bT O (cO O (aT (fV (hv _ (HL2)) dN O) (aT (fJ O O) (jo O (fun h3 => ?_) (fun h3 => ?_))))))
  ·(try simp only [aG] at h3)
   refine gX (aI (bK (aI ?_)))
   have hkl2 : k2 < l.length := by omega
   refine aF (ku O O ?_)
   obtain ⟨bv, ov, cv, ev⟩ := Rd.qX (hv _ (HL2)) (by omega)
   cases ev
   refine aT (dP dN ni O O (by omega)) (bg 1 kW O nC O (aT (FW (fB (dG nD O) O (Rd.atS (hv _ (HL2)) (by omega) (by decide))) (ahy hkl2)) (aT (fJ O O) (jo O (fun h4 => ?_) (fun h4 => ?_)))))
   ·(try simp only [aG] at h4)
    have hkn := h4
    refine jE O (aY (aC (aC (aY (aC (dO results134 O ?_))))))
    exact ⟨by rw [X3 hsh hkl2 hkn], HL2⟩
   ·(try simp only [aG] at h4)
    have hkp : ¬ (l.getD k2 default).2 < 0 := by have h9 := h4; omega
    refine eG (aS (aZ (aF (cO O (aT (gY O O (by omega)) (lg O (dJ ?_)))))))
    refine fG (k2 + 1) ?_ ?_ ?_ ?_
    ·exact rJ
    ·exact rJ
    ·(try dsimp only)
     first | done | exact ⟨⟨by omega, fun i hi => (show i < k2 ∨ i = k2 from by omega).elim (hpo i) (fun c => c ▸ hkp)⟩, HL2⟩
    ·(try dsimp only); omega
  ·(try simp only [aG] at h3)
   refine iZ (bC (bC (dK (aZ (aI ?_)))))
   obtain rfl : k2 = l.length := by omega
   refine aF (iJ O (dO results134 O ?_))
   exact ⟨by rw [abz hsh hpo], HL2⟩
theorem Uf (H : V w0 w (gU p (.cells #[v, .int .i64 base, .int .i64 most] 163 (0, 0)) • hlK v hl • F)) (hm : 0 ≤ most ∧ most ≤ 4096) (hb : 1 ≤ base ∧ base ≤ 2305843009213693952) (hn : hl.length ≤ 70368744177664) :
  iK prog 135 #[.pointer (some ⟨p, 0, none⟩)] w fun _ w' => ∃ v', V w0 w' (gU p (.cells #[v', .int .i64 (base + xK hl most), .int .i64 most] 163 (0, 0)) • hlK v' (hl.drop (xK hl most)) • F) := by
 refine jl func135 ntmps135 ?_
 refine bK ?_
 refine jh [(0, _)] (fun (⟨k, u⟩ : Nat × Value) => []) (fun (⟨k, u⟩ : Nat × Value) W => k ≤ xK hl most ∧ V w0 W (gU p (.cells #[u, .int .i64 (base + k), .int .i64 most] 163 (0, 0)) • hlK u (hl.drop k) • F)) (fun (⟨k, u⟩ : Nat × Value) => xK hl most - k) ((0, v)) rJ (Sub.nil _) ⟨by omega, by simpa using H⟩ ?_
 rintro ⟨k, u⟩ w1 ⟨hk, HL⟩
 dsimp only [List.cons_append, List.nil_append]
 refine aI (aI ?_)
 have aad := HL.drew
 have JB := V.kp (aad.f2.f2)
 refine tH [3, 8] JB O (fM 0 O JB O (jF 1 O JB O (eP 2 O JB 0 jm O lN O (iD 3 O JB (fun W hW => jk dN O ((Kp.h hW)).get.2 O) (iE 4 O JB (fun _ => fV ((aad.f2).EO) dN O) (fM 5 O JB O (jF 6 O JB O (eP 7 O JB 2 jm O ah O (iD 8 O JB (fun W hW => jk ay O ((Kp.h hW)).get.2 O) (iE 9 O JB (fun _ => fZ O O) (oH (aZ (dw O (fun h1 => ?_) (fun h1 => ?_))))))))))))))
 ·(try simp only [aG] at h1)
  have hlt : k < xK hl most := by have h9 := h1; rw [List.length_drop] at h9; unfold xK; omega
  have hdl : (hl.drop k).length = hl.length - k := List.length_drop
  have hd1 : 1 ≤ (hl.drop k).length := by rw [hdl]; unfold xK at hlt; omega
  refine gX (bK (bT O (kY O O (bg 0 jm O lN O (dQ dN O (aad).get.2 O (aT (rP ((aad.f2).EO) dN ni O O O (by omega)) ?_))))))
  refine dM O (bg 0 jm O lN O (aH (iw 0 (l' := [_, _, _]) aad lN O O (by first | rfl | exact Rd.one (Rd.ai3 ((aad.f2).EO) (by omega))) O O) ?_))
  rintro _ w2 H2
  refine iR (aF (kY O O (bg 1 jm O nC O (dQ nD O (H2).get.2 O (aT (gY O O (by omega)) (dM O (bg 1 jm O nC O (aH (st3 1 H2 nC) ?_))))))))
  rintro _ w3 H3
  have HN := (H3.f2).af5 hd1 |>.swap
  rw [List.drop_drop] at HN
  refine dJ (aS ?_)
  refine fG ((k + 1, xI 2 1 (hl.drop k).length u)) ?_ ?_ ?_ ?_
  ·exact (Sub.nil _)
  ·exact rJ
  ·(try dsimp only)
   first | done | exact ⟨by omega, by rw [show (base + ((k + 1 : Nat) : Int)) = base + k + 1 from by omega]; exact HN⟩
  ·(try dsimp only); omega
 ·(try simp only [aG] at h1)
  have hge : k = xK hl most := by have h9 := h1; rw [List.length_drop] at h9; unfold xK at hk ⊢; omega
  refine iZ (bC (bC (dK (nJ (.inr O) results135 ?_))))
  exact ⟨_, by rw [← hge]; exact aad⟩
theorem KQ (H : V w0 w (jS p hl base most • F)) (hv : Ht w0 F 2 v l.length (l.flatMap qI)) (hb : hl.length + l.length ≤ 5864062014805) (hbase : base ≤ 1152921504606846976) :
  iK prog 70 #[.pointer (some ⟨p, 0, none⟩), v] w fun v' w' => v' = .int .i64 (BL l) ∧ V w0 w' (jS p (V3 hl most l) (V4 hl base most l) most • F) := by
 refine nO func70 ntmps70 ?_
 refine kG O (aI (bT O (fH O func134 (Ue H (fun W HW => hv _ (HW.right)) (by omega)) ?_)))
 rintro _ w1 ⟨rfl, H1⟩
 refine iU O (bT O (aT (fF O O) (jo O (fun h1 => ?_) (fun h1 => ?_))))
 ·(try simp only [aG] at h1)
  have hm := h1
  refine bT O (iJ O (aC (dO results70 O ?_)))
  exact ⟨O, by unfold V3 V4; rw [if_neg hm, if_neg hm]; exact H1⟩
 ·(try simp only [aG] at h1)
  have hm : BL l = 0 := h1
  refine gX (aI ?_)
  obtain ⟨VY, AY, Dp⟩ := (H1).FH
  have hkl := AY.1
  have hon := @MS l
  have V6 := @MS hl
  refine aF (ku O O (dM O (bg 0 jm O lN O (dQ dN O (Dp).get.2 O (jT (gK (Dp.iV none) dN V5 O O O ((Dp.f2).EO) (by assumption) (by omega) (by omega)) ?_)))))
  rintro l3 w3 H3
  refine cO O (jT (gK H3 dN V5 O O O (hv _ (H3.right.right.right)) (by assumption) (by omega) (by omega)) ?_)
  rintro l4 w4 H4
  refine dM O (bg 0 jm O lN O (aH (iw 0 (l' := [_, _, _]) H4.f2 lN O O (by first | rfl | exact Rd.one ((H4).aJ)) O O) ?_))
  rintro _ w5 H5
  refine qG O (fH O func135 (Uf (hl := hl ++ l) (by have HQ := H5.f3.right.f2; rw [List.nil_append, Nat.zero_add, ← List.flatMap_append, ← List.length_append] at HQ; exact HQ.Ot.swap) ⟨by have := AY.2.2.2.1; omega, AY.2.2.2.2.1⟩ ⟨AY.2.1, by omega⟩ (by have := AY.1; rw [List.length_append]; omega)) ?_)
  rintro _ w6 ⟨v2, H6⟩
  refine iR (jE O (dO results70 O ?_))
  exact ⟨by rw [hm], by unfold V3 V4; rw [if_pos hm, if_pos hm]; exact V.Bo (agV AY hb hm hbase) H6⟩
theorem KR {n : Int} (H : V w0 w F) (hn : 0 ≤ n ∧ n ≤ 4096) : iK prog 69 #[.int .i64 n] w fun v w' => ∃ p, v = .tuple #[.pointer (some ⟨p, 0, none⟩), .int .i64 0] ∧ V w0 w' (jS p [] 1 n • F) := by
  refine jl func69 ntmps69 ?_
  refine kQ (lg O (vI O (bT O (aT (fJ O O) (nS O (fun h1 => ?_) (fun h1 => ?_))))))
  · (try simp only [aG] at h1)
    exfalso; first | contradiction | omega
  · (try simp only [aG] at h1)
    refine bJ (cO O (bJ (aT (fZ O O) (kP O O (jo O (fun h2 => ?_) (fun h2 => ?_))))))
    · (try simp only [aG] at h2)
      exfalso; first | contradiction | omega
    · (try simp only [aG] at h2)
      refine gX (bT O ?_)
      refine aT (iT (zl := [.slice none 0 0, .int .i64 0, .int .i64 0]) (pl := [(0, 1), (1, 1), (2, 1)]) [_, _, _] jm zeroValue163 O (fun w => by kernel_rfl) O (.zero (zs := [.slice none 0 0]) O (.on (.on .nil))) O) ?_
      refine jT (kZ (l := [_, _, _]) H O O) ?_
      rintro _ w1 ⟨b1, rfl, H1⟩
      refine lg O (iJ O (Fp results69 O O ?_))
      exact ⟨_, O, V.Bo (v := .slice none 0 0) (hl := []) ⟨by simp, by decide, by decide, by simp; omega, by omega, by simp⟩ ((H1.iV none).Ot (l := [])).swap⟩
theorem Rt {n : Int} (H : V w0 w F) (hn : 0 ≤ n ∧ n ≤ 4096) (hv : Ht w0 F 2 v l.length (l.flatMap qI)) (hb : l.length ≤ 5864062014805) (hm : BL l ≠ 0) : iK prog 16 #[.int .i64 n, v] w fun v' w' =>
    v' = .tuple #[.pointer none, .int .i64 (BL l)] ∧ V w0 w' F := by
  refine nO func16 ntmps16 ?_
  refine kQ (lg O (iU O (bT O (fH O func69 (KR H (by omega)) ?_))))
  rintro _ w1 ⟨p1, rfl, H1⟩
  refine cO O (xY O O (xY O O (lg O (vI O (bT O (aT (fF O O) (iR (Kq O (fun h1 => ?_)))))))))
  (try simp only [aG] at h1)
  refine gX (aI (bT O (cO O (fH O func70 (KQ H1 hv (by simp; omega) (by decide)) ?_))))
  rintro _ w2 ⟨rfl, H2⟩
  refine iU O (bT O (aT (fF O O) (jo O (fun h2 => ?_) (fun h => by exfalso; (try simp only [aG] at h); exact hm h))))
  (try simp only [aG] at h2)
  refine bT O (lg O (iJ O (aC (Fp results16 O O ?_))))
  exact ⟨O, H2.right⟩
theorem P5 {n : Int} (H : V w0 w F) (hn : 0 ≤ n ∧ n ≤ 4096) (hv : Ht w0 F 2 v l.length (l.flatMap qI)) (hb : l.length ≤ 5864062014805) (hm : BL l = 0) : iK prog 16 #[.int .i64 n, v] w fun v' w' =>
    ∃ p, v' = .tuple #[.pointer (some ⟨p, 0, none⟩), .int .i64 0] ∧ V w0 w' (jS p (V3 [] n l) (V4 [] 1 n l) n • F) := by
  refine nO func16 ntmps16 ?_
  refine kQ (lg O (iU O (bT O (fH O func69 (KR H (by omega)) ?_))))
  rintro _ w1 ⟨p1, rfl, H1⟩
  refine cO O (xY O O (xY O O (lg O (vI O (bT O (aT (fF O O) (iR (Kq O (fun h1 => ?_)))))))))
  (try simp only [aG] at h1)
  refine gX (aI (bT O (cO O (fH O func70 (KQ H1 hv (by simp; omega) (by decide)) ?_))))
  rintro _ w2 ⟨rfl, H2⟩
  refine iU O (bT O (aT (fF O O) (jo O (fun h => by exfalso; (try simp only [aG] at h); exact h hm) (fun h2 => ?_))))
  (try simp only [aG] at h2)
  refine gX (bT O (lg O (iJ O (Fp results16 O O ?_))))
  exact ⟨_, O, H2⟩
theorem P6 (H : V w0 w (jS p hl base most • F)) : iK prog 66 #[.pointer (some ⟨p, 0, none⟩)] w fun v w' => ∃ q, v = .pointer (some ⟨q, 0, none⟩) ∧ V w0 w' (jS q hl base most • jS p hl base most • F) := by
 refine jl func66 ntmps66 ?_
 refine kG O (aI ?_)
 obtain ⟨VY, AY, Dp⟩ := (H).FH
 have hkl := AY.1
 have V6 := @MS hl
 have aae := Dp.drew
 have yu := V.kp (aae.f2.f2)
 refine tH [3, 8, 12] yu O (fM 0 O yu O (jF 1 O yu O (eP 2 O yu 0 jm O lN O (iD 3 O yu (fun W hW => jk dN O ((Kp.h hW)).get.2 O) (fM 5 O yu O (jF 6 O yu O (eP 7 O yu 1 jm O nC O (iD 8 O yu (fun W hW => jk nD O ((Kp.h hW)).get.2 O) (fM 9 O yu O (jF 10 O yu O (eP 11 O yu 2 jm O ah O (iD 12 O yu (fun W hW => jk ay O ((Kp.h hW)).get.2 O) (lC 4 O (gK (aae.iV none) dN V5 O O O ((aae.f2).EO) (by assumption) (by omega) (by omega)) ?_)))))))))))))
 rintro l2 w2 H2
 have Bq := V.kp (H2.f3.f3.f3)
 refine dZ Bq (fun W hW => (Kp.h hW).right.f2.f2) ?_
 refine iE 13 O Bq (fun _ => iT (zl := [.slice none 0 0, .int .i64 0, .int .i64 0]) (pl := [(0, 1), (1, 1), (2, 1)]) [_, _, _] jm zeroValue163 O (fun w => by kernel_rfl) O (.one (Rd.one ((H2).aJ)) (.on (.on .nil))) O) ?_
 refine lC 14 O (kZ (l := [_, _, _]) H2 O O) ?_
 rintro _ w3 ⟨b3, rfl, H3⟩
 have lW := V.kp (H3.f4.f4.f4.f4)
 refine dX lW (by kernel_rfl) ?_
 refine iE 15 O lW (fun _ => eH O) (oH (aZ (kN (dO results66 O ?_))))
 have Ho5 := H3.f4.f4
 have Hc6 := V.Bo AY Ho5
 have HQ := Hc6.f2.f3
 rw [List.nil_append, Nat.zero_add] at HQ
 exact ⟨_, O, V.Bo AY HQ.Ot.swap⟩
end
def strs (l : List ByteArray) : List Value := l.map Value.string
theorem Ou {l : List ByteArray} : ∀ x ∈ strs l, x.oneCell' = true := by
  intro x hx
  obtain ⟨e, _, rfl⟩ := List.mem_map.1 hx
  rfl
def pz (hl : List rM) : List ByteArray := hl.map (·.1) ++ [.empty]
section
variable {P : Program} {L : List (Nat × Value)} {w0 w : World} {F : HP} {p : Nat} {hl l : List rM} {base most : Int} {v : Value}
theorem acp {hl : List rM} {k : Nat} (hk : k < hl.length) : strs ((hl.take (k + 1)).map (·.1)) = strs ((hl.take k).map (·.1)) ++ [.string (hl.getD k default).1] := by
  unfold strs
  rw [List.take_succ_eq_append_getElem hk, List.map_append, List.map_append, List.getD_eq_getElem?_getD, List.getElem?_eq_getElem hk]; rfl
theorem Ug (H : V w0 w (jS p hl base most • F)) : iK prog 67 #[.pointer (some ⟨p, 0, none⟩)] w fun v w' => ∃ q ov nv, v = .pointer (some ⟨q, 0, none⟩) ∧
  V w0 w' (gU q (.cells #[ov, nv, .int .i64 hl.length] 49 (0, 0)) • Row 9 1 ov (pz hl).length (strs (pz hl)) • Row 9 1 nv (pz hl).length (strs (pz hl)) • jS p hl base most • F) := by
 refine jl func67 ntmps67 ?_
 refine kG O (aI ?_)
 obtain ⟨VY, AY, Dp⟩ := (H).FH
 have hkl := AY.1
 refine aF (kY O O (bg 0 jm O lN O (dQ dN O (Dp).get.2 O (aT (fV ((Dp.f2).EO) dN O) ?_))))
 refine aT (iT (zl := [.slice none 0 0, .slice none 0 0, .int .i64 0]) (pl := [(0, 1), (1, 1), (2, 1)]) [_, _, _] dL zeroValue49 O (fun w => by kernel_rfl) O (.zero (zs := [.slice none 0 0]) O (.zero (zs := [.slice none 0 0]) O (.on .nil))) O) ?_
 refine jT (kZ (l := [_, _, _]) Dp O O) ?_
 rintro _ w2 ⟨b2, rfl, H2⟩
 refine vI O (kG O (bK ?_))
 refine jh [(0, _), (3, _)] (fun (⟨k, u⟩ : Nat × Value) => [(4, .int .i64 (k : Int))]) (fun (⟨k, u⟩ : Nat × Value) W => k ≤ hl.length ∧ V w0 W (gU b2 (.cells #[u, .slice none 0 0, .int .i64 hl.length] 49 (0, 0)) • Row 9 1 u k (strs ((hl.take k).map (·.1))) • gU p (.cells #[VY, .int .i64 base, .int .i64 most] 163 (0, 0)) • hlK VY hl • F)) (fun (⟨k, u⟩ : Nat × Value) => hl.length - k) ((0, .slice none 0 0)) vV rJ ⟨by omega, (H2.f3.f3.f3).iV none |>.swap⟩ ?_
 rintro ⟨k, u⟩ w3 ⟨hk, HL⟩
 dsimp only [List.cons_append, List.nil_append]
 refine aI (bT O (kY O O (bg 0 jm O lN O (dQ dN O (HL.f3).get.2 O (aT (fV ((HL.f4).EO) dN O) (aT (fJ O O) (jo O (fun h1 => ?_) (fun h1 => ?_))))))))
 ·(try simp only [aG] at h1)
  have hkl2 : k < hl.length := by have h9 := h1; omega
  refine gX (aI (bK ?_))
  have MX := HL.drew
  have qj := V.kp (MX.f4.f4.f4.f4)
  refine tH [4, 8, 12] qj O (fM 0 O qj O (fM 1 O qj O (jF 2 O qj O (eP 3 O qj 0 dL O lu O (iD 4 O qj (fun W hW => jk dW O ((Kp.h hW)).get.2 O) (fM 5 O qj O (jF 6 O qj O (eP 7 O qj 0 jm O lN O (iD 8 O qj (fun W hW => jk dN O ((Kp.h hW).f3).get.2 O) (fM 9 O qj O ?_))))))))))
  obtain ⟨ai4, ai5, ai6, adT⟩ := Rd.qX ((MX.f4).EO) (by omega)
  cases adT
  refine iE 10 O qj (fun _ => dP dN ni O O (by omega)) (eP 11 O qj 0 kW O oM O (iD 12 O qj (fun W hW => FW (fB (dG iW O) O (Rd.atS (((Kp.h hW).f4).EO) (by omega) (by decide))) (adS hkl2)) (lC 13 O (mX (vs := [_]) MX dW oM zeroValue9 O O O (by decide) (aP bW)) ?_)))
  rintro l4 w4 H4
  have ng := V.kp (H4.f5.f5.f5.f5.f5)
  refine dZ ng (fun W hW => (Kp.h hW).right.f4.f4.f4.f4) ?_
  refine lC 14 O (gK H4.f3 dW adU O O O ((H4).aJ) (aP bW) (by omega) (by omega)) ?_
  rintro l5 w5 H5
  have Hd6 := H5.f2.right
  have Am := V.kp (Hd6.f4.f4.f4.f4)
  refine dX Am (by kernel_rfl) ?_
  refine jF 15 O Am O (eP 16 O Am 0 dL O lu O ?_)
  refine gW 17 O (by kernel_rfl) (iw 0 (l' := [_, _, _]) Hd6.f2 lu O O (by first | rfl | exact Rd.one ((Hd6).aJ)) O O) ?_
  rintro _ w7 H7
  have Ak := V.kp (H7.f4.f4.f4.f4)
  refine dX Ak (by kernel_rfl) ?_
  refine oH (aS (aZ (aF (cO O (aT (gY O O (by omega)) (lg O (dJ ?_)))))))
  refine fG ((k + 1, l5)) ?_ ?_ ?_ ?_
  ·exact rJ
  ·exact vV
  ·(try dsimp only)
   first | done | exact ⟨by omega, by rw [acp hkl2]; exact H7⟩
  ·(try dsimp only); omega
 ·(try simp only [aG] at h1)
  refine iZ (bC (bC (dK (aZ (aI ?_)))))
  obtain rfl : k = hl.length := by omega
  refine aF (ku O O (dM O (bg 0 dL O lu O (dQ dW O (HL).get.2 O (jT (mX (vs := [_]) HL dW oM zeroValue9 O O O (by decide) (aP bW)) ?_)))))
  rintro l8 w8 H8
  refine jT (gK H8.f3 dW adU O O O ((H8).aJ) (aP bW) (by omega) (by omega)) ?_
  rintro l9 w9 H9
  have aaf := H9.f2.right
  refine dM O (bg 0 dL O lu O (aH (iw 0 (l' := [_, _, _]) aaf.f2 lu O O (by first | rfl | exact Rd.one ((aaf).aJ)) O O) ?_))
  rintro _ Ii rE
  have HX := rE
  rw [List.take_length, show strs (hl.map (·.1)) ++ [Value.string { data := #[] }] = strs (pz hl) from by unfold pz strs; rw [List.map_append]; rfl, show hl.length + 1 = (pz hl).length from by simp [pz]] at HX
  have hon := @Ou (pz hl)
  have hol : (pz hl).length = hl.length + 1 := by simp [pz]
  refine qG O (kY O O (bg 0 dL O lu O (dQ dW O (HX).get.2 O (jT (gK (HX.iV none) dW adU O O O ((HX.f2).aJ) (by assumption) (by omega) (by omega)) ?_))))
  rintro l12 w12 uP
  refine dM O (bg 1 dL O lu O (aH (iw 1 (l' := [_, _, _]) uP.f2 lu O O (by first | rfl | exact Rd.one ((uP).aJ)) O O) ?_))
  rintro _ P7 AZ
  refine qG O (iJ O (dO results67 O ?_))
  have ahz := AZ.f5.f5
  have ahA := V.Bo AY ahz
  have HQ := ahA.f3.f4.f4
  rw [List.nil_append, Nat.zero_add] at HQ
  exact ⟨_, _, _, O, HQ⟩
end
end Go.Proofs.YtnhhmieghbfalaaGreatDoor
end
