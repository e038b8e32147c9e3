import Derived.Test.YtgndbccogcofjaaGreatDoorZ2
import Derived.Test.YtgndbccogcofjaaGreatDoorZ3
import Derived.Test.YtgndbccogcofjaaGreatDoorZ4
import Derived.Test.YtgndbccogcofjaaGreatDoorZ9
set_option linter.unusedSimpArgs false
set_option linter.unusedVariables false
/- Texts of mine, joined, their names in short: LitS Eds UList Range UList2 UList3. -/
section
namespace Go.Proofs.YtgndbccogcofjaaGreatDoor
open Go.RowKit
section
variable {P : Program} {L : List (Nat × Value)} {w0 w : World} {F : HP} {ty : TypeId}
theorem Ic (l : List Value) : ∀ (i : Nat) (cells : Array Value), cells.size = i + l.length → (l.zipIdx i).foldl (fun cs (x : Value × Nat) => cs.setIfInBounds (0 + x.2) x.1) cells = (cells.toList.take i ++ l).toArray := by
  induction l with
  | nil => intro i cells hs; simp [List.take_of_length_le (show cells.toList.length ≤ i by simp; simp at hs; omega)]
  | cons v r ih =>
    intro i cells hs
    rw [List.zipIdx_cons, List.foldl_cons]
    rw [ih (i + 1) _ (by simp at hs ⊢; omega)]
    congr 1
    have hi : i < cells.toList.length := by simp at hs ⊢; omega
    rw [Array.toList_setIfInBounds, Nat.zero_add, List.take_succ_eq_append_getElem (by simpa using hi), List.take_set_of_le (Nat.le_refl _)]
    simp
theorem oI {t e sz : Nat} {x : Operand} {cs : Array Value} {z : Value} (H : aB w0 w F) (ht : P.underlying t = some (.slice e)) (hs : ∀ w, (sizeOf e).run P w = .ok sz w) (hz : ∀ w, (zeroValue e).run P w = .ok z w) (hz1 : z.cells.size = sz)
    (hx : ev L x = some (.agg cs)) (hn : cs.size = sz) (h0 : 0 < sz) (LM : sz ≤ 16777216) :
    oK P L (.buildSlice t 1 #[(0, x)]) ty w fun v w' => aB w0 w' (Row e sz v 1 cs.toList • F) := by
  refine mF (v := .slice (some ⟨w.heap.size, 0, none⟩) 1 1) (w' := w.alloc (.cells cs e)) ?_ ?_
  · intro ρ hρ d pos ku g
    simp only [execOp, Instr.buildSlice, Sem.run_bind, run_underlying ht, Result.andThen_ok, hs]
    rw [if_neg (by omega), if_neg (by omega)]
    have hf : ∀ q : Array Value, q.size = sz → Instr.fill (fun i => some (i * sz, sz)) q [(0, .agg cs)] = some cs := fun q hq => by
      simp only [Instr.fill, Value.cells, hn]
      rw [if_neg (by simp [hq])]
      have := Ic cs.toList 0 q (by simp [hn, hq])
      simp only [Nat.zero_mul]
      rw [← Array.foldl_toList, Array.toList_zipIdx]
      simpa using this
    have hf1 := hf ((Array.range sz).map (z.cells[· % z.cells.size]!)) (by simp)
    simp [hz, hρ _ _ hx, hf1, newRow]
  · refine (H.alloc _).rO (by simp [hn]) rfl (Nat.le_refl _) (by omega) (by simp [hn]) fun j hj => ?_
    rw [Nat.zero_add, List.getD_eq_getElem?_getD]
    have : j < cs.size := by omega
    simp [this]
theorem ML (l : List Value) : ∀ (o i : Nat) (cells : Array Value), o + i + l.length ≤ cells.size → (l.zipIdx i).foldl (fun cs (x : Value × Nat) => cs.setIfInBounds (o + x.2) x.1) cells = (cells.toList.take (o + i) ++ l ++ cells.toList.drop (o + i + l.length)).toArray := by
  induction l with
  | nil => intro o i cells hs; simp
  | cons v r ih =>
    intro o i cells hs
    rw [List.zipIdx_cons, List.foldl_cons]
    rw [ih o (i + 1) _ (by simp at hs ⊢; omega)]
    congr 1
    simp only [List.length_cons] at hs ⊢
    have hi : o + i < cells.toList.length := by rw [Array.length_toList]; omega
    rw [Array.toList_setIfInBounds, show o + (i + 1) = o + i + 1 from by omega, List.take_succ_eq_append_getElem (by simpa using hi), List.take_set_of_le (Nat.le_refl _), List.drop_set_of_lt (by omega)]
    simp
    omega
end
section
variable {w0 w : World} {F : HP}
end
end Go.Proofs.YtgndbccogcofjaaGreatDoor
end
section
namespace Go.Proofs.YtgndbccogcofjaaGreatDoor
open Go.RowKit
structure bZ where
  a : Int
  d : Value
  dl : List Int
  i : Value
  il : List Int
instance : Inhabited bZ := ⟨⟨0, .slice none 0 0, [], .slice none 0 0, []⟩⟩
def bZ.enc (e : bZ) : List Value := [.int .i64 e.a, e.d, e.i]
theorem bZ.wU (e : bZ) : e.enc.length = 3 := rfl
def bZ.Tt (I : Hp) (e : bZ) : Prop := uK I .i32 e.d e.dl ∧ uK I .i32 e.i e.il
theorem bZ.Tt.mono {I I' : Hp} {e : bZ} (hl : Hp.le I I') (h : e.Tt I) : e.Tt I' := ⟨h.1.mono hl, h.2.mono hl⟩
def bZ.says (e : bZ) : Int × List Int × List Int := (e.a, e.dl, e.il)
def y9 (I : Hp) (es : List bZ) : Prop := ∀ k, k < es.length → (es.getD k default).Tt I
theorem y9.mono {I I' : Hp} {es : List bZ} (hl : Hp.le I I') (h : y9 I es) : y9 I' es := fun k hk => (h k hk).mono hl
theorem y9.app {I : Hp} {es fs : List bZ} (h : y9 I es) (g : y9 I fs) : y9 I (es ++ fs) := fun k hk => by
  by_cases hl : k < es.length
  · rw [nG hl]; exact h k hl
  · rw [lF (by omega)]; exact g _ (by simp at hk; omega)
theorem y9.one {I : Hp} {e : bZ} (h : e.Tt I) : y9 I [e] := fun k hk => by
  obtain rfl : k = 0 := by simp at hk; omega
  exact h
def iL (es : List bZ) : HP := know (fun I => y9 I es) fun _ _ hl h => h.mono hl
def ZV (e : bZ) : HP := know (fun I => e.Tt I) fun _ _ hl h => h.mono hl
def Cm (v : Value) (es : List bZ) : HP := Row 101 3 v es.length (es.flatMap bZ.enc) • iL es
def FT (I : Hp) (sz : Nat) (v : Value) (n : Nat) (xs : List Value) : Prop := xs.length = n * sz ∧ ∃ a c, v = .slice a n c ∧ n ≤ c ∧ (c : Int) ≤ 9223372036854775807 ∧
  (0 < n → ∃ b o cs e fr, a = some ⟨b, o, none⟩ ∧ I b = some (.cells cs e fr) ∧ ∀ j, j < n * sz → cs[o + j]? = some (xs.getD j undef))
theorem FT.mono {I I' : Hp} {sz n : Nat} {v : Value} {xs : List Value} (hl : Hp.le I I') (h : FT I sz v n xs) : FT I' sz v n xs := by
  obtain ⟨h0, a, c, h1, h2, h3, h4⟩ := h
  exact ⟨h0, a, c, h1, h2, h3, fun hp => let ⟨b, o, cs, e, fr, e1, e2, e3⟩ := h4 hp; ⟨b, o, cs, e, fr, e1, hl _ _ e2, e3⟩⟩
theorem FT.rd {w : World} {m : Nat} {I : Hp} {sz n : Nat} {v : Value} {xs : List Value} (h : FT I sz v n xs) (hI : ∀ k o, I k = some o → m ≤ k ∧ w.heap[k]? = some o) : Rd w sz v n xs := by
  obtain ⟨h0, a, c, h1, h2, h3, h4⟩ := h
  exact ⟨h0, a, c, h1, h2, h3, fun hp => let ⟨b, o, cs, e, fr, e1, e2, e3⟩ := h4 hp; ⟨b, o, e1, fun j hj => fC (hI _ _ e2).2 (e3 j hj)⟩⟩
theorem FT.MI {I : Hp} {sz n : Nat} {v : Value} {xs : List Value} (h : FT I sz v n xs) : v.oneCell' = true := by obtain ⟨_, a, c, rfl, _⟩ := h; rfl
def Tv (I : Hp) (v : Value) (es : List bZ) : Prop := FT I 3 v es.length (es.flatMap bZ.enc) ∧ y9 I es
theorem Tv.mono {I I' : Hp} {v : Value} {es : List bZ} (hl : Hp.le I I') (h : Tv I v es) : Tv I' v es := ⟨h.1.mono hl, h.2.mono hl⟩
def xE (v : Value) (es : List bZ) : HP := know (fun I => Tv I v es) fun _ _ hl h => h.mono hl
def wV (I : Hp) (gs : List (Value × List bZ)) : Prop := ∀ k, k < gs.length → Tv I (gs.getD k default).1 (gs.getD k default).2
theorem wV.mono {I I' : Hp} {gs : List (Value × List bZ)} (hl : Hp.le I I') (h : wV I gs) : wV I' gs := fun k hk => (h k hk).mono hl
theorem wV.app {I : Hp} {es fs : List (Value × List bZ)} (h : wV I es) (g : wV I fs) : wV I (es ++ fs) := fun k hk => by
  by_cases hl : k < es.length
  · rw [nG hl]; exact h k hl
  · rw [lF (by omega)]; exact g _ (by simp at hk; omega)
theorem wV.one {I : Hp} {v : Value} {es : List bZ} (h : Tv I v es) : wV I [(v, es)] := fun k hk => by
  obtain rfl : k = 0 := by simp at hk; omega
  exact h
theorem wV.take {I : Hp} {gs : List (Value × List bZ)} (h : wV I gs) (n : Nat) : wV I (gs.take n) := fun k hk => by
  simp at hk
  rw [xW (by omega)]
  exact h k (by omega)
def lG (gs : List (Value × List bZ)) : HP := know (fun I => wV I gs) fun _ _ hl h => h.mono hl
def wW (v : Value) (gs : List (Value × List bZ)) : HP := Row 35 1 v gs.length (gs.map (·.1)) • lG gs
section
variable {w0 w : World} {F : HP} {v u : Value} {es fs : List bZ} {e : bZ} {gs : List (Value × List bZ)} {a : Int} {d i : Value} {dl il : List Int}
theorem aB.Ar (H : aB w0 w F) : aB w0 w (iL [] • F) := H.DX fun I k hk => by simp at hk
theorem aB.FU (H : aB w0 w F) : aB w0 w (lG [] • F) := H.DX fun I k hk => by simp at hk
theorem aB.nH (H : aB w0 w F) (a : Option Addr) : aB w0 w (Cm (.slice a 0 0) [] • F) := (H.Ar.iP (e := 101) (sz := 3) a).deep
theorem aB.wX (H : aB w0 w F) (a : Option Addr) : aB w0 w (wW (.slice a 0 0) [] • F) := (H.FU.iP (e := 35) (sz := 1) a).deep
theorem aB.Tz (H : aB w0 w (Cm v es • F)) : aB w0 w (Row 101 3 v es.length (es.flatMap bZ.enc) • iL es • F) := H.flat
theorem aB.Rn (H : aB w0 w (wW v gs • F)) : aB w0 w (Row 35 1 v gs.length (gs.map (·.1)) • lG gs • F) := H.flat
theorem aB.qQ (H : aB w0 w (Row 101 3 v (es.length + 1) (es.flatMap bZ.enc ++ [.int .i64 a, d, i]) • zT .i32 d dl • zT .i32 i il • iL es • F)) : aB w0 w (Cm v (es ++ [⟨a, d, dl, i, il⟩]) • F) := by
  have h1 : aB w0 w (zT .i32 d dl • zT .i32 i il • iL es • Row 101 3 v (es.length + 1) (es.flatMap bZ.enc ++ [.int .i64 a, d, i]) • F) := H.of_eq (by ac_rfl)
  have h2 : aB w0 w (ZV ⟨a, d, dl, i, il⟩ • iL es • Row 101 3 v (es.length + 1) (es.flatMap bZ.enc ++ [.int .i64 a, d, i]) • F) := h1.BM (nI (fun I h g => ⟨h, g⟩) _)
  have h3 : aB w0 w (iL (es ++ [⟨a, d, dl, i, il⟩]) • Row 101 3 v (es.length + 1) (es.flatMap bZ.enc ++ [.int .i64 a, d, i]) • F) := h2.BM (nI (fun I h g => g.app (y9.one h)) _)
  refine aB.deep (h3.swap.of_eq ?_)
  rw [List.length_append, List.flatMap_append]
  simp [bZ.enc]
theorem aB.oN (H : aB w0 w (Cm v es • F)) : aB w0 w (xE v es • F) := by
  have hl := H.Tz.wI
  have H := H.Tz
  rcases H.qH with ⟨a, rfl, h1, h2, H1⟩ | ⟨g, o, c, cur, rfl, h2, h3, h4, h5, H1⟩
  · refine H1.BM (qJ (fun I hI => ⟨⟨hl, a, 0, by rw [h1], by omega, by decide, fun h => by omega⟩, hI⟩) F)
  · exact H1.freeze.BM (nI (fun I hI hE => ⟨⟨hl, _, c, rfl, h2, h3, fun _ => ⟨g, o, cur, _, (0, 0), rfl, hI, h5⟩⟩, hE⟩) F)
theorem aB.vP (H : aB w0 w (xE v es • F)) : Rd w 3 v es.length (es.flatMap bZ.enc) := let ⟨I, h, hI⟩ := H.rF; h.1.rd hI
theorem aB.Uy (H : aB w0 w (xE v es • F)) {k : Nat} (hk : k < es.length) : jV w .i32 (es.getD k default).d (es.getD k default).dl := let ⟨I, h, hI⟩ := H.rF; (h.2 k hk).1.rd hI
theorem aB.Uz (H : aB w0 w (xE v es • F)) {k : Nat} (hk : k < es.length) : jV w .i32 (es.getD k default).i (es.getD k default).il := let ⟨I, h, hI⟩ := H.rF; (h.2 k hk).2.rd hI
theorem aB.FV (H : aB w0 w (lG gs • F)) {k : Nat} (hk : k < gs.length) : aB w0 w (xE (gs.getD k default).1 (gs.getD k default).2 • lG gs • F) := H.zB.BM (qJ (fun I h => h k hk) _)
theorem aB.MN (H : aB w0 w (lG gs • F)) (n : Nat) : aB w0 w (lG (gs.take n) • F) := H.BM (qJ (fun I h => h.take n) _)
theorem aB.qR (H : aB w0 w (Row 35 1 v (gs.length + 1) (gs.map (·.1) ++ [u]) • xE u es • lG gs • F)) : aB w0 w (wW v (gs ++ [(u, es)]) • F) := by
  have h1 : aB w0 w (xE u es • lG gs • Row 35 1 v (gs.length + 1) (gs.map (·.1) ++ [u]) • F) := H.of_eq (by ac_rfl)
  have h3 : aB w0 w (lG (gs ++ [(u, es)]) • Row 35 1 v (gs.length + 1) (gs.map (·.1) ++ [u]) • F) := h1.BM (nI (fun I h g => g.app (wV.one h)) _)
  refine aB.deep (h3.swap.of_eq ?_)
  rw [List.length_append, List.map_append]
  rfl
theorem aB.Au (H : aB w0 w (iL es • F)) : ∀ x ∈ es.flatMap bZ.enc, x.oneCell' = true := by
  obtain ⟨I, h, hI⟩ := H.rF
  intro x hx
  obtain ⟨e, he, hx⟩ := List.mem_flatMap.1 hx
  obtain ⟨k, hk, rfl⟩ := List.getElem_of_mem he
  have := h k hk
  rw [List.getD_eq_getElem?_getD, List.getElem?_eq_getElem hk] at this
  simp [bZ.enc] at hx
  rcases hx with rfl | rfl | rfl
  · rfl
  · exact this.1.MI
  · exact this.2.MI
end
end Go.Proofs.YtgndbccogcofjaaGreatDoor
end
section
namespace Go.Proofs.YtgndbccogcofjaaGreatDoor
open Go.RowKit
open _root_.Go.Proofs.Tryz
abbrev dQ := Int × List Int × List Int
def dO (G : List (List dQ)) (N : List dQ) : Nat := (G.map List.length).sum + N.length
def EB (e : dQ) : Prop := e.2.1.length ≤ 35184372087808 ∧ e.2.2.length ≤ 35184372087808
theorem O9 {N : List dQ} {x : dQ} (h : ∀ e ∈ N, EB e) (hx : EB x) : ∀ e ∈ N ++ [x], EB e := fun e he => by
  rcases List.mem_append.1 he with he | he
  · exact h e he
  · rw [List.mem_singleton.1 he]; exact hx
theorem FW {G : List (List dQ)} {N : List dQ} (h : ∀ g ∈ G, ∀ e ∈ g, EB e) (hx : ∀ e ∈ N, EB e) : ∀ g ∈ G ++ [N], ∀ e ∈ g, EB e := fun g hg => by
  rcases List.mem_append.1 hg with hg | hg
  · exact h g hg
  · rw [List.mem_singleton.1 hg]; exact hx
theorem Jy {G : List (List dQ)} {N : List dQ} (h : ∀ g ∈ G, g ≠ []) (hx : N ≠ []) : ∀ g ∈ G ++ [N], g ≠ [] := fun g hg => by
  rcases List.mem_append.1 hg with hg | hg
  · exact h g hg
  · rw [List.mem_singleton.1 hg]; exact hx
def Pe (G : List (List dQ)) (N : List dQ) (op : Int) : Prop := (∀ g ∈ G, g ≠ []) ∧ dO G N ≤ 16384 ∧ 0 ≤ op ∧ op ≤ 4611686018427387904 ∧ (∀ g ∈ G, ∀ e ∈ g, EB e) ∧ ∀ e ∈ N, EB e
theorem Ie {G : List (List dQ)} (h : ∀ g ∈ G, g ≠ []) : G.length ≤ (G.map List.length).sum := by
  induction G with
  | nil => simp
  | cons g G ih =>
    have h1 := ih fun x hx => h x (by simp [hx])
    have h2 : 0 < g.length := List.length_pos_iff.2 (h g (by simp))
    simp; omega
theorem Pe.len {G : List (List dQ)} {N : List dQ} {op : Int} (h : Pe G N op) : G.length + N.length ≤ 16384 := by
  have := Ie h.1
  have := h.2.1
  unfold dO at this
  omega
def dN (p : Nat) (G : List (List dQ)) (N : List dQ) (op : Int) : HP := qo fun (x : Value × Value × List (Value × List bZ) × List bZ) =>
  fact (Pe G N op ∧ x.2.2.1.map (fun g => g.2.map bZ.says) = G ∧ x.2.2.2.map bZ.says = N) • dh p (.cells #[x.1, x.2.1, .int .i64 op, .int .i64 (dO G N : Nat), .bool true] 180 (0, 0)) • wW x.1 x.2.2.1 • Cm x.2.1 x.2.2.2
section
variable {w0 w : World} {F : HP} {p : Nat} {G : List (List dQ)} {N : List dQ} {op : Int} {gv nv : Value} {gs : List (Value × List bZ)} {now : List bZ} {a : Int} {d z : Value} {dl il : List Int}
theorem aB.qU (H : aB w0 w (dN p G N op • F)) : ∃ gv nv gs now, Pe G N op ∧ gs.map (fun g => g.2.map bZ.says) = G ∧ now.map bZ.says = N ∧ gs.length = G.length ∧ now.length = N.length ∧ G.length + N.length ≤ 16384 ∧
    aB w0 w (dh p (.cells #[gv, nv, .int .i64 op, .int .i64 (dO G N : Nat), .bool true] 180 (0, 0)) • Row 35 1 gv gs.length (gs.map (·.1)) • lG gs • Row 101 3 nv now.length (now.flatMap bZ.enc) • iL now • F) := by
  obtain ⟨⟨gv, nv, gs, now⟩, H⟩ := H.kH
  obtain ⟨⟨h1, h2, h3⟩, H⟩ := H.flat.fact
  refine ⟨gv, nv, gs, now, h1, h2, h3, ?_, ?_, h1.len, ?_⟩
  · rw [← h2]; simp
  · rw [← h3]; simp
  · have := H.flat
    unfold wW Cm at this
    exact this.of_eq (by ac_rfl)
theorem aB.nN (h1 : Pe G N op) (h2 : gs.map (fun g => g.2.map bZ.says) = G) (h3 : now.map bZ.says = N) {ed : Int} (he : ed = (dO G N : Nat))
    (H : aB w0 w (dh p (.cells #[gv, nv, .int .i64 op, .int .i64 ed, .bool true] 180 (0, 0)) • wW gv gs • Cm nv now • F)) : aB w0 w (dN p G N op • F) := by
  subst he
  exact aB.gy (gv, nv, gs, now) (aB.deep (aB.je ⟨h1, h2, h3⟩ (H.of_eq (by ac_rfl))))
theorem aB.iT (h1 : Pe G N op) (h2 : gs.map (fun g => g.2.map bZ.says) = G) (h3 : now.map bZ.says = N) {ed : Int} (he : ed = (dO G N : Nat))
    (H : aB w0 w (dh p (.cells #[gv, nv, .int .i64 op, .int .i64 ed, .bool true] 180 (0, 0)) • Row 35 1 gv gs.length (gs.map (·.1)) • lG gs • Row 101 3 nv now.length (now.flatMap bZ.enc) • iL now • F)) : aB w0 w (dN p G N op • F) :=
  aB.nN h1 h2 h3 he (H.of_eq (by unfold wW Cm; ac_rfl))
theorem iw (H : aB w0 w (dN p G N op • F)) : eG prog 181 #[.pointer (some ⟨p, 0, none⟩)] w fun v w' => v = .bool false ∧ w = w' := by
 refine fP func181 ntmps181 ?_
 dsimp only [aX, Nat.reduceAdd]
 refine ay (ah (aV rfl (aA (aj (ay ?_)))))
 obtain ⟨tN, qV, iM, iF, gY, nZ, lM, Aw, Az, Eh, jS⟩ := (H).qU
 refine ah (aO rfl (aW (fO underlying117 rfl rfl) (fV rfl (fun h1 => ?_) (fun h1 => ?_))))
 ·(try simp only [aI] at h1)
  try (exfalso; first | contradiction | omega)
  all_goals
   refine bC (bC (bC (bC (bC (fG rfl rfl (aV rfl (aA (aj (aJ (aH (.inl rfl) results181 rfl ?_))))))))))
   exact ⟨rfl, rfl⟩
 ·(try simp only [aI] at h1)
  try (exfalso; first | contradiction | omega)
  all_goals
   refine bf (aO rfl (bf (bK rfl (bf (aZ 4 underlying180 rfl sizeOf4 rfl (bf (dP underlying4 rfl (jS).get.2 rfl (bf (aW (kC rfl) (eY rfl rfl (aV rfl (aA (aj (aJ (aH (.inl rfl) results181 rfl ?_)))))))))))))))
   exact ⟨rfl, rfl⟩
theorem Ei (H : aB w0 w F) : eG prog 215 #[] w fun v w' => ∃ p, v = .pointer (some ⟨p, 0, none⟩) ∧ aB w0 w' (dN p [] [] 0 • F) := by
 refine fP func215 ntmps215 ?_
 dsimp only [aX, Nat.reduceAdd]
 refine ay (ah (aV rfl (aA (aj (ay (ah (aW (dS (pl := #[(0, 4), (4, 1)]) (#[_, _, _, _, _]) underlying180 zeroValue180 (fun w => by kernel_rfl) rfl (rfl)) (jo (gV (l := [_, _, _, _, _]) H rfl rfl) ?_))))))))
 rintro _ w1 ⟨b1, rfl, H1⟩
 refine aV rfl (aA (aj (aJ (aH (.inl rfl) results215 rfl ?_))))
 refine ⟨_, rfl, aB.nN (gv := .slice none 0 0) (nv := .slice none 0 0) (gs := []) (now := []) ⟨by simp, by decide, by decide, by decide, by simp, by simp⟩ rfl rfl rfl ?_⟩
 exact (((H1).nH none).wX none).of_eq (by ac_rfl)
theorem AA (H : aB w0 w (dN p G N op • F)) : eG prog 194 #[.pointer (some ⟨p, 0, none⟩)] w fun v w' => v = .int .i64 (dO G N : Nat) ∧ aB w0 w' (dN p G N op • F) := by
 refine fP func194 ntmps194 ?_
 dsimp only [aX, Nat.reduceAdd]
 refine ay (ah (aV rfl (aA (aj (ay (ay (ah (aO rfl (dn rfl func181 (iw H) ?_)))))))))
 rintro _ _ ⟨rfl, rfl⟩
 refine aA (aj (nV (aS (aj (ay ?_)))))
 obtain ⟨tN, qV, iM, iF, gY, nZ, lM, Aw, Az, Eh, jS⟩ := (H).qU
 refine ah (aO rfl (bK rfl (aZ 0 underlying180 rfl sizeOf178 rfl (aZ 3 underlying178 rfl sizeOf3 rfl (dP underlying3 rfl (jS).get.2 rfl (aV rfl (aA (aj (aJ (aH (.inl rfl) results194 rfl ?_))))))))))
 have MO := jS.f5.f5.f5.f5.f5
 have MP := aB.iT gY nZ lM rfl MO
 exact ⟨rfl, MP⟩
theorem oO (H : aB w0 w (dN p G N op • F)) (hb : op < 4611686018427387904) : eG prog 163 #[.pointer (some ⟨p, 0, none⟩)] w fun v w' => v = .int .i64 0 ∧ aB w0 w' (dN p G N (op + 1) • F) := by
 have hop : 0 ≤ op := by obtain ⟨gv, nv, gs, now, k1, _⟩ := H.qU; exact k1.2.2.1
 refine fP func163 ntmps163 ?_
 dsimp only [aX, Nat.reduceAdd]
 refine ay (ah (aV rfl (aA (aj (ay (ay (ah (aO rfl (dn rfl func181 (iw H) ?_)))))))))
 rintro _ _ ⟨rfl, rfl⟩
 refine aA (aj (nV (aS (aj (ay ?_)))))
 obtain ⟨tN, qV, iM, iF, gY, nZ, lM, Aw, Az, Eh, jS⟩ := (H).qU
 refine ah (aO rfl (bK rfl (aZ 0 underlying180 rfl sizeOf178 rfl (aZ 2 underlying178 rfl sizeOf3 rfl (dP underlying3 rfl (jS).get.2 rfl (aW (fQ rfl rfl (by omega)) (bK rfl (aZ 0 underlying180 rfl sizeOf178 rfl (aZ 2 underlying178 rfl sizeOf3 rfl (aG (aN 2 (l' := [_, _, _, _, _]) jS sizeOf3 rfl rfl (by first | rfl | assumption) rfl rfl) ?_))))))))))
 rintro _ w3 H3
 refine aA (aj (ay (ah (aV rfl (aA (aj (aJ (aH (.inl rfl) results163 rfl ?_))))))))
 exact ⟨rfl, aB.iT ⟨gY.1, gY.2.1, by omega, by omega, gY.2.2.2.2⟩ nZ lM rfl H3.f5.f5.f5.f5.f5⟩
def og (G : List (List dQ)) (N : List dQ) (a : Int) (dl il : List Int) : Int := if dl.length + il.length = 0 ∨ a < 0 then 1 else if 16384 ≤ dO G N then 3 else 0
def Ig (G : List (List dQ)) (N : List dQ) (op a : Int) (dl il : List Int) : List (List dQ) := if og G N a dl il = 0 then (if 0 < op then G else G ++ [[(a, dl, il)]]) else G
def Ih (G : List (List dQ)) (N : List dQ) (op a : Int) (dl il : List Int) : List dQ := if og G N a dl il = 0 then (if 0 < op then N ++ [(a, dl, il)] else N) else N
theorem Ej {x : dQ} : dO G (N ++ [x]) = dO G N + 1 := by simp [dO]; omega
theorem FX {x : dQ} : dO (G ++ [[x]]) N = dO G N + 1 := by simp [dO]; omega
theorem AB (h : og G N a dl il ≠ 0) : Ig G N op a dl il = G := by unfold Ig; rw [if_neg h]
theorem AL (h : og G N a dl il ≠ 0) : Ih G N op a dl il = N := by unfold Ih; rw [if_neg h]
theorem zo (h : og G N a dl il = 0) (ho : 0 < op) : Ig G N op a dl il = G := by unfold Ig; rw [if_pos h, if_pos ho]
theorem zq (h : og G N a dl il = 0) (ho : 0 < op) : Ih G N op a dl il = N ++ [(a, dl, il)] := by unfold Ih; rw [if_pos h, if_pos ho]
theorem MQ (h : og G N a dl il = 0) (ho : ¬ 0 < op) : Ig G N op a dl il = G ++ [[(a, dl, il)]] := by unfold Ig; rw [if_pos h, if_neg ho]
theorem MR (h : og G N a dl il = 0) (ho : ¬ 0 < op) : Ih G N op a dl il = N := by unfold Ih; rw [if_pos h, if_neg ho]
theorem rW (H : aB w0 w (dN p G N op • F)) (hd : iD w0 F .i32 d dl) (hi : iD w0 F .i32 z il) (b2 : dl.length ≤ 35184372087808) (b3 : il.length ≤ 35184372087808) :
  eG prog 164 #[.pointer (some ⟨p, 0, none⟩), Ux a d z] w fun v w' => v = .int .i64 (og G N a dl il) ∧ aB w0 w' (dN p (Ig G N op a dl il) (Ih G N op a dl il) op • F) := by
 refine fP func164 ntmps164 ?_
 dsimp only [aX, Nat.reduceAdd]
 refine ay (ah (jo (gV (l := [_, _, _]) H rfl rfl) ?_))
 rintro _ w1 ⟨b1, rfl, H1⟩
 refine aV rfl (aA (aj (ay (ay (ah (aO rfl (dn rfl func181 (iw H1.f2) ?_)))))))
 rintro _ _ ⟨rfl, rfl⟩
 refine aA (aj (nV (aS (aj (ay (ay (ah (aZ 1 underlying101 rfl sizeOf22 rfl (dP underlying22 rfl (H1).get.2 rfl (aW (nX (hd _ (H1.right.right)) underlying22 rfl) (aZ 2 underlying101 rfl sizeOf22 rfl (dP underlying22 rfl (H1).get.2 rfl (aW (nX (hi _ (H1.right.right)) underlying22 rfl) (aW (fQ rfl rfl (by omega)) (aW (gI rfl rfl) (fV rfl (fun h1 => ?_) (fun h1 => ?_)))))))))))))))))
 ·(try simp only [aI] at h1)
  refine bC (bC (bC (fG rfl rfl (aA (aj (uI (ay (ah (aV rfl (aA (aj (aJ (aK (aH (.inl rfl) results164 rfl ?_))))))))))))))
  have e : og G N a dl il = 1 := by unfold og; rw [if_pos (by omega)]
  rw [AB (by rw [e]; decide), AL (by rw [e]; decide), e]
  exact ⟨rfl, H1.right⟩
 ·(try simp only [aI] at h1)
  refine bf (aZ 0 underlying101 rfl sizeOf3 rfl (bf (dP underlying3 rfl (H1).get.2 rfl (bf (aW (eU rfl rfl) (eY rfl rfl (aA (aj (aQ rfl (fun h2 => ?_) (fun h2 => ?_))))))))))
  ·(try simp only [aI] at h2)
   refine ay (ah (aV rfl (aA (aj (aJ (aK (aH (.inl rfl) results164 rfl ?_)))))))
   have e : og G N a dl il = 1 := by unfold og; rw [if_pos (by omega)]
   rw [AB (by rw [e]; decide), AL (by rw [e]; decide), e]
   exact ⟨rfl, H1.right⟩
  ·(try simp only [aI] at h2)
   refine aS (aj (ay (ay ?_)))
   obtain ⟨tN, qV, iM, iF, gY, nZ, lM, Aw, Az, Eh, jS⟩ := (H1.f2).qU
   refine ah (aO rfl (bK rfl (aZ 0 underlying180 rfl sizeOf178 rfl (aZ 3 underlying178 rfl sizeOf3 rfl (dP underlying3 rfl (jS).get.2 rfl (aW (jm rfl rfl) (aA (aj (aQ rfl (fun h3 => ?_) (fun h3 => ?_))))))))))
   ·(try simp only [aI] at h3)
    refine ay (ah (aV rfl (aA (aj (aJ (aK (aH (.inl rfl) results164 rfl ?_)))))))
    have e : og G N a dl il = 3 := by unfold og; rw [if_neg (by omega), if_pos (by omega)]
    have ZW := jS.f5.f5.f5.f5.f5
    have ZX := aB.iT gY nZ lM rfl ZW
    rw [AB (by rw [e]; decide), AL (by rw [e]; decide), e]
    exact ⟨rfl, ZX.f2.right⟩
   ·(try simp only [aI] at h3)
    refine aS (aj (ay (ah (aO rfl (bK rfl (aZ 0 underlying180 rfl sizeOf178 rfl (aZ 3 underlying178 rfl sizeOf3 rfl (dP underlying3 rfl (jS).get.2 rfl (aW (fQ rfl rfl (by omega)) (bK rfl (aZ 0 underlying180 rfl sizeOf178 rfl (aZ 3 underlying178 rfl sizeOf3 rfl (aG (aN 3 (l' := [_, _, _, _, _]) jS sizeOf3 rfl rfl (by first | rfl | assumption) rfl rfl) ?_)))))))))))))
    rintro _ w7 H7
    refine aA (aj (ay (ay (ah (aO rfl (bK rfl (aZ 0 underlying180 rfl sizeOf178 rfl (aZ 2 underlying178 rfl sizeOf3 rfl (dP underlying3 rfl (H7).get.2 rfl (aW (dB rfl rfl) (aA (aj (aQ rfl (fun h4 => ?_) (fun h4 => ?_))))))))))))))
    ·(try simp only [aI] at h4)
     have UA := H7.drew
     have yO := aB.kp (UA.f6.f6.f6.f6.f6.f6)
     refine xJ [5, 6] yO rfl (iq 0 rfl yO rfl (iq 1 rfl yO rfl (jv 2 rfl yO rfl (fU 3 rfl yO 0 underlying180 rfl sizeOf178 rfl (fU 4 rfl yO 1 underlying178 rfl sizeOf35 rfl (iV 5 rfl yO (fun W hW => jr underlying35 rfl ((Kp.h hW)).get.2 rfl) (iV 6 rfl yO (fun W hW => bW underlying101 rfl sizeOf101 rfl rfl ((Kp.h hW).f6).get.2) (jB 7 rfl (vK rfl func220 (oG UA (fun W HW => hd _ (HW.right.right.right.right.right.right)) (fun W HW => hi _ (HW.right.right.right.right.right.right)) (by omega) (by omega))) ?_))))))))
     rintro _ w8 ⟨d8, s8, rfl, H8⟩
     have KJ := aB.kp (H8.f8.f8.f8.f8.f8.f8.f8.f8)
     refine dM KJ (fun W hW => (Kp.h hW).right.right.f6.f6.f6.f6.f6.f6) ?_
     refine jB 8 rfl (oI H8 underlying35 sizeOf101 zeroValue101 rfl rfl rfl (by decide) (by decide)) ?_
     rintro l9 w9 H9
     have Ii := aB.kp (H9.f9.f9.f9.f9.f9.f9.f9.f9.f9)
     refine dM Ii (fun W hW => (Kp.h hW).right.f8.f8.f8.f8.f8.f8.f8.f8) ?_
     refine jB 9 rfl (gK H9.f7 underlying35 (show (prog.info? 101).map (fun i => (i.zero, i.size, i.bytes)) = some (some (.agg #[.int .i64 0, .slice none 0 0, .slice none 0 0]), 3, 56) by kernel_rfl) rfl rfl rfl ((H9).aT) (aC (by first | rfl | assumption) (aC (by first | rfl | exact Rd.one ((H9.f2).aT)) (aC (by first | rfl | exact Rd.one ((H9.f3).aT)) bP))) (by omega) (by omega)) ?_
     rintro l10 w10 ng
     have Ij := ng.f2.right
     have Dq := aB.kp (Ij.f8.f8.f8.f8.f8.f8.f8.f8)
     refine eX Dq (by kernel_rfl) ?_
     refine jv 10 rfl Dq rfl (fU 11 rfl Dq 0 underlying180 rfl sizeOf178 rfl (fU 12 rfl Dq 1 underlying178 rfl sizeOf35 rfl ?_))
     refine eP 13 rfl (by kernel_rfl) (aN 1 (l' := [_, _, _, _, _]) Ij.f4 sizeOf35 rfl rfl (by first | rfl | exact Rd.one ((Ij).aT)) rfl rfl) ?_
     rintro _ w12 vM
     have wY := aB.kp (vM.f8.f8.f8.f8.f8.f8.f8.f8)
     refine eX wY (by kernel_rfl) ?_
     have hadd : 0 < op := by omega
     refine oV (aj (ay (ah (aV rfl (aA (aj (aJ (aH (.inl rfl) results164 rfl ?_))))))))
     have e : og G N a dl il = 0 := by unfold og; rw [if_neg (by omega), if_neg (by omega)]
     rw [zo e hadd, zq e hadd, e]
     have X := (vM.f8.right.f6.f6.f3.f7.f5.f7.f7).jf.swap.jf.swap
     have X2 := aB.qQ X.f3
     refine ⟨rfl, aB.nN (gv := tN) (nv := l10) (gs := iM) (now := iF ++ [⟨a, d8, dl, s8, il⟩]) (ed := (dO G N : Nat) + 1) ⟨gY.1, by rw [Ej]; omega, gY.2.2.1, gY.2.2.2.1, gY.2.2.2.2.1, O9 gY.2.2.2.2.2 ⟨b2, b3⟩⟩ nZ (by rw [List.map_append, lM]; rfl) (by rw [Ej]; rfl) (X2.of_eq (by unfold wW; ac_rfl))⟩
    ·(try simp only [aI] at h4)
     have MS := H7.drew
     have pX := aB.kp (MS.f6.f6.f6.f6.f6.f6)
     refine xJ [5, 6] pX rfl (iq 0 rfl pX rfl (iq 1 rfl pX rfl (jv 2 rfl pX rfl (fU 3 rfl pX 0 underlying180 rfl sizeOf178 rfl (fU 4 rfl pX 0 underlying178 rfl sizeOf176 rfl (iV 5 rfl pX (fun W hW => jr underlying176 rfl ((Kp.h hW)).get.2 rfl) (iV 6 rfl pX (fun W hW => bW underlying101 rfl sizeOf101 rfl rfl ((Kp.h hW).f6).get.2) (jB 7 rfl (vK rfl func220 (oG MS (fun W HW => hd _ (HW.right.right.right.right.right.right)) (fun W HW => hi _ (HW.right.right.right.right.right.right)) (by omega) (by omega))) ?_))))))))
     rintro _ Me ⟨d13, s13, rfl, uX⟩
     have uY := aB.kp (uX.f8.f8.f8.f8.f8.f8.f8.f8)
     refine dM uY (fun W hW => (Kp.h hW).right.right.f6.f6.f6.f6.f6.f6) ?_
     refine jB 8 rfl (oI uX underlying35 sizeOf101 zeroValue101 rfl rfl rfl (by decide) (by decide)) ?_
     rintro Y5 Ky wM
     have MV := aB.kp (wM.f9.f9.f9.f9.f9.f9.f9.f9.f9)
     refine dM MV (fun W hW => (Kp.h hW).right.f8.f8.f8.f8.f8.f8.f8.f8) ?_
     refine jB 9 rfl (kM (vs := [_]) wM underlying176 sizeOf35 zeroValue35 rfl rfl rfl (by decide) (aC (by first | rfl | exact Rd.one ((wM).aT)) bP)) ?_
     rintro l15 MB wC
     have uZ := aB.kp (wC.f10.f10.f10.f10.f10.f10.f10.f10.f10.f10)
     refine dM uZ (fun W hW => (Kp.h hW).right.f9.f9.f9.f9.f9.f9.f9.f9.f9) ?_
     refine jB 10 rfl (gK wC.f6 underlying176 (show (prog.info? 35).map (fun i => (i.zero, i.size, i.bytes)) = some (some (.slice none 0 0), 1, 24) by kernel_rfl) rfl rfl rfl ((wC).aT) (aC (by first | rfl | exact Rd.one ((wC.f2).aT)) bP) (by omega) (by omega)) ?_
     rintro Y6 w16 rP
     have Ik := rP.f2.right
     have Jz := aB.kp (Ik.f9.f9.f9.f9.f9.f9.f9.f9.f9)
     refine eX Jz (by kernel_rfl) ?_
     refine jv 11 rfl Jz rfl (fU 12 rfl Jz 0 underlying180 rfl sizeOf178 rfl (fU 13 rfl Jz 0 underlying178 rfl sizeOf176 rfl ?_))
     refine eP 14 rfl (by kernel_rfl) (aN 0 (l' := [_, _, _, _, _]) Ik.f5 sizeOf176 rfl rfl (by first | rfl | exact Rd.one ((Ik).aT)) rfl rfl) ?_
     rintro _ Qc C9
     have FY := aB.kp (C9.f9.f9.f9.f9.f9.f9.f9.f9.f9)
     refine eX FY (by kernel_rfl) ?_
     have hadd : ¬ 0 < op := by omega
     refine oV (aj (ay (ah (aV rfl (aA (aj (aJ (aH (.inl rfl) results164 rfl ?_))))))))
     have e : og G N a dl il = 0 := by unfold og; rw [if_neg (by omega), if_neg (by omega)]
     rw [MQ e hadd, MR e hadd, e]
     have X := (C9.f9.right.f8.f8.f3.f8.f5.f6.f8.f8).jf.swap.jf.swap
     have X2 := aB.qQ (es := []) X.Ar.f3.f3.f4
     have X4 := aB.qR X2.oN.swap
     refine ⟨rfl, aB.nN (gv := Y6) (nv := qV) (gs := iM ++ [(Y5, [⟨a, d13, dl, s13, il⟩])]) (now := iF) (ed := (dO G N : Nat) + 1) ⟨Jy gY.1 (List.cons_ne_nil _ _), by rw [FX]; omega, gY.2.2.1, gY.2.2.2.1, FW gY.2.2.2.2.1 (by intro e he; rw [List.mem_singleton.1 he]; exact ⟨b2, b3⟩), gY.2.2.2.2.2⟩ (by rw [List.map_append, nZ]; rfl) lM (by rw [FX]; rfl) (X4.of_eq (by unfold Cm; ac_rfl))⟩
end
end Go.Proofs.YtgndbccogcofjaaGreatDoor
end
section
namespace Go.Proofs.YtgndbccogcofjaaGreatDoor
open Go.RowKit
def Em (P : Program) (l : Nat) (vs : List Value) (w : World) (T : Value → World → Prop) : Prop :=
  ∃ f tmps c d, (Instr.yield l vs.toArray).run P w = .ok (.round l f tmps c d) w ∧ RoundIn Fence.wide 0 P l f tmps c d w fun e w' => ∃ v, e = .returned v ∧ T v w'
theorem Em.mono {P : Program} {l : Nat} {vs : List Value} {w : World} {T T' : Value → World → Prop} (h : Em P l vs w T) (k : ∀ v w', T v w' → T' v w') : Em P l vs w T' :=
  let ⟨f, tmps, c, d, h1, h2⟩ := h; ⟨f, tmps, c, d, h1, RoundIn.mono h2 fun _ _ ⟨v, e, t⟩ => ⟨v, e, k _ _ t⟩⟩
theorem Em.bool {P : Program} {l : Nat} {vs : List Value} {w : World} {A B : World → Prop} (h : Em P l vs w fun v W' => (v = .bool true ∧ A W') ∨ (v = .bool false ∧ B W')) : Em P l vs w fun v W' => ∃ t, v = .bool t ∧ (t = true → A W') ∧ (t = false → B W') :=
  h.mono fun v W' hv => by
    rcases hv with ⟨rfl, h⟩ | ⟨rfl, h⟩
    · exact ⟨true, rfl, fun _ => h, fun e => by cases e⟩
    · exact ⟨false, rfl, (fun e => by cases e), fun _ => h⟩
theorem En {P : Program} {L : List (Nat × Value)} {w : World} {ty : TypeId} {x : Operand} {args : List Operand} {ts : Array TypeId} {l : Nat} {vs : List Value} {T : Value → World → Prop} (hx : ev L x = some (.func (.yield l) #[] #[])) (ha : wu L args = some vs) (h : Em P l vs w T) :
    oK P L (.call ⟨.value x, args.toArray, ts⟩) ty w T := by
  obtain ⟨f, tmps, c, d, hy, hr⟩ := h
  refine Ov (fun ρ hρ dd pos ku g => ?_) hr
  have hg := hρ _ _ hx
  simp [execOp, resolve, invoke, SX hρ _ _ ha, hg, Deferred.ofValue, hy]
def Iter (P : Program) (w0 : World) (fv : Value) (R : HP) (n : Nat) (E : Nat → List Value → HP → Prop) : Prop :=
  ∀ (l : Nat) (J : Nat → HP) (X : HP) (w : World),
    (∀ k, k < n → ∀ vs A, E k vs A → ∀ G W, aB w0 W (A • J k • G) → Em P l vs W fun v W' => (v = .bool true ∧ aB w0 W' (J (k + 1) • G)) ∨ (v = .bool false ∧ aB w0 W' (X • G))) →
    aB w0 w (J 0 • R) → Fe P fv [.func (.yield l) #[] #[]] w fun _ W' => aB w0 W' (J n • R) ∨ aB w0 W' (X • R)
def FZ (w0 : World) (I : HP) (Xr : HP) (Xe : Nat → HP) (G : HP) : Exit → Act → World → Prop
  | .normal, _, W => aB w0 W (I • G)
  | .ret, _, W => aB w0 W (Xr • G)
  | .exit id, _, W => aB w0 W (Xe id • G)
  | _, _, _ => False
def JA (P : Program) (N : Sh) (w0 : World) (body : Code) (I : HP) (Xr : HP) (Xe : Nat → HP) (G : HP) (a : Act) (W : World) : Prop :=
  ∃ (L : List (Nat × Value)) (B : HP), Fits N L a ∧ aB w0 W (B • G) ∧ ∀ G' W', aB w0 W' (B • G') → WC P N body (FZ w0 I Xr Xe G') L W'
def MW : Exit → Act → World → Prop := fun _ _ _ => False
theorem Il {P : Program} {N : Sh} {w0 w : World} {body : Code} {I Xr : HP} {Xe : Nat → HP} {G B : HP} {L : List (Nat × Value)} (H : aB w0 w (B • G)) (h : ∀ G' W', aB w0 W' (B • G') → WC P N body (FZ w0 I Xr Xe G') L W') :
    WQ N (Exit.then (JA P N w0 body I Xr Xe G) MW) .normal L w := fun _ a ha => ⟨L, B, ha, H, h⟩
theorem AO {N : Sh} {w0 w : World} {I Xr : HP} {Xe : Nat → HP} {G : HP} {L : List (Nat × Value)} (H : aB w0 w (I • G)) : WQ N (FZ w0 I Xr Xe G) .normal L w := fun _ _ _ => H
theorem MX {N : Sh} {w0 w : World} {I Xr : HP} {Xe : Nat → HP} {G : HP} {id : Nat} {L : List (Nat × Value)} (H : aB w0 w (Xe id • G)) : WQ N (FZ w0 I Xr Xe G) (.exit id) L w := fun _ _ _ => H
theorem MZ {w0 : World} {I Xr : HP} {Xe : Nat → HP} {G : HP} : NP (FZ w0 I Xr Xe G) := fun _ _ _ h => h
def Io : List Nat → List Value → List (Nat × Value) → List (Nat × Value)
  | [], _, L => L
  | _ :: _, [], L => L
  | p :: ps, v :: vs, L => Io ps vs ((p, v) :: L)
theorem F5 {n l : Nat} : ∀ (ps : List Nat) (vs : List Value) (L : List (Nat × Value)) (tmps : Array Value), (∀ p ∈ ps, p < n) → Fits ⟨n, [], some l⟩ L { tmps := tmps, defers := [] } →
    Fits ⟨n, [], some l⟩ (Io ps vs L) { tmps := (ps.zip vs).foldl (fun t (p : Nat × Value) => t.setIfInBounds p.1 p.2) tmps, defers := [] }
  | [], _, _, _, _, h => h
  | _ :: _, [], _, _, _, h => h
  | p :: ps, v :: vs, L, tmps, hp, h => F5 ps vs _ _ (fun q hq => hp q (by simp [hq])) (h.put (hp p (by simp)) v)
section
variable {P : Program} {N : Sh} {Q : Exit → Act → World → Prop} {L : List (Nat × Value)} {w0 w : World}
theorem rX {g : Operand} {ps : List Nat} {assign body : Code} {fv : Value} {R : HP} {n : Nat} {E : Nat → List Value → HP → Prop} (hg : ev L g = some fv) (hit : Iter P w0 fv R n E) (I : Nat → HP) (Xr : HP) (Xe : Nat → HP) (H : aB w0 w (I 0 • R))
    (hps : ps.all (· < N.n) = true)
    (hbody : ∀ l k, k < n → ∀ vs A, E k vs A → ∀ G W, aB w0 W (A • I k • G) → vs.length = ps.length ∧ WC P ⟨N.n, [], some l⟩ assign (Exit.then (JA P ⟨N.n, [], some l⟩ w0 body (I (k + 1)) Xr Xe G) MW) (Io ps vs L) W)
    (hdone : ∀ D W, aB w0 W (dh D (.deferred (some [])) • I n • R) → WQ ⟨N.n, D :: N.ds, none⟩ Q .normal L W)
    (hret : ∀ D W, aB w0 W (dh D (.deferred (some [])) • Xr • R) → WQ ⟨N.n, D :: N.ds, none⟩ Q .ret L W)
    (UC : ∀ id D W, aB w0 W (dh D (.deferred (some [])) • Xe id • R) → WQ ⟨N.n, D :: N.ds, none⟩ Q (.exit id) L W)
    (hro : N.ro = none := by rfl) : WC P N (.rangeFunc g ps.toArray assign body) Q L w := fun np a ha => by
  rw [hro]
  refine wpIn_rangeFunc fun fn _ => ?_
  let lN : LoopState → Option Code → Loop := fun s j => { state := s, pending := j, fn, tmps := a.tmps, params := ps.toArray, assign, body, defers := w.heap.size }
  have WT := run_enterLoop_outer (P := P) (w := w) fn a.tmps ps.toArray assign body
  have H1 : aB w0 ((w.alloc (.deferred (some []))).alloc (.loop (lN .ready none))) (dh (w.heap.size + 1) (.loop (lN .ready none)) • dh w.heap.size (.deferred (some [])) • I 0 • R) := by
    have := (H.alloc (.deferred (some []))).alloc (.loop (lN .ready none))
    rw [World.size_alloc] at this
    exact this
  let Lk : LoopState → Option Code → HP := fun s j => dh (w.heap.size + 1) (.loop (lN s j)) • dh w.heap.size (.deferred (some []))
  have Ro : ∀ k, k < n → ∀ vs A, E k vs A → ∀ G W, aB w0 W (A • (Lk .ready none • I k) • G) → Em P (w.heap.size + 1) vs W fun v W' => (v = .bool true ∧ aB w0 W' ((Lk .ready none • I (k + 1)) • G)) ∨
      (v = .bool false ∧ aB w0 W' (qo (fun c : Code => Lk .done (some c) • (match c with | .ret => Xr | .exit id => Xe id | _ => fact False)) • G)) := by
    intro k hk vs A hE G W HW
    have e1 : (A • (Lk .ready none • I k) • G) = (dh (w.heap.size + 1) (.loop (lN .ready none)) • A • I k • dh w.heap.size (.deferred (some [])) • G) := by
      show (A • ((dh (w.heap.size + 1) (.loop (lN .ready none)) • dh w.heap.size (.deferred (some []))) • I k) • G) = _
      ac_rfl
    have HW1 := HW.of_eq e1
    have hl := HW1.get.2
    have hlen := (hbody (w.heap.size + 1) k hk vs A hE _ W (HW1.of_eq (show _ = (A • I k • dh (w.heap.size + 1) (.loop (lN .ready none)) • dh w.heap.size (.deferred (some [])) • G) by ac_rfl))).1
    refine ⟨fn, _, assign, body, run_yield hl (by rw [List.size_toArray, hlen]; exact List.size_toArray.symm), ?_⟩
    have hfit : Fits ⟨N.n, [], some (w.heap.size + 1)⟩ (Io ps vs L) { tmps := (ps.toArray.zip vs.toArray).foldl (fun tmps (t, a) => tmps.setIfInBounds t a) a.tmps, defers := [] } := by
      have := F5 (n := N.n) (l := w.heap.size + 1) ps vs L a.tmps (fun p hp => by simpa using List.all_eq_true.1 hps p hp) ⟨ha.size, rfl, ha.at_⟩
      simpa using this
    refine roundIn_of_wpIn trivial ?_
    have HW2 : aB w0 W (A • I k • dh (w.heap.size + 1) (.loop (lN .ready none)) • dh w.heap.size (.deferred (some [])) • G) := HW1.of_eq (by ac_rfl)
    have hb := (hbody (w.heap.size + 1) k hk vs A hE _ W HW2).2 (fun c a w h => h) _ hfit
    refine wpIn_mono hb ?_
    rintro e a1 W1 hq
    cases e with
    | exit id => exact hq.elim
    | goto l => exact hq.elim
    | ret => exact hq.elim
    | panic c => exact hq.elim
    | outgrown => exact hq.elim
    | normal =>
      obtain ⟨L1, B, hf1, HB, hgo⟩ := hq
      have HB1 : aB w0 W1 (dh (w.heap.size + 1) (.loop (lN .ready none)) • B • dh w.heap.size (.deferred (some [])) • G) := HB.of_eq (by ac_rfl)
      have hl1 := HB1.get.2
      refine ⟨_, run_beginRound hl1 rfl, ?_⟩
      have HB2 : aB w0 (W1.putObj (w.heap.size + 1) (.loop (lN .busy none))) (dh (w.heap.size + 1) (.loop (lN .busy none)) • B • dh w.heap.size (.deferred (some [])) • G) := HB1.turn rfl rfl rfl (by simp) (World.putObj_heap_same HB1.lt) fun k hk _ => World.putObj_heap_other hk
      have hbd := hgo (dh (w.heap.size + 1) (.loop (lN .busy none)) • dh w.heap.size (.deferred (some [])) • G) _ (HB2.of_eq (by ac_rfl)) MZ a1 hf1
      refine wpIn_mono hbd ?_
      have fin : ∀ (j : Option Code) (W3 : World) (A3 : HP), aB w0 W3 (A3 • dh (w.heap.size + 1) (.loop (lN .busy none)) • dh w.heap.size (.deferred (some [])) • G) →
          (Instr.endRound (w.heap.size + 1) j).run P W3 = .ok (.bool j.isNone) (W3.putObj (w.heap.size + 1) (.loop (lN (if j.isNone then .ready else .done) j))) ∧
          aB w0 (W3.putObj (w.heap.size + 1) (.loop (lN (if j.isNone then .ready else .done) j))) ((Lk (if j.isNone then .ready else .done) j • A3) • G) := by
        intro j W3 A3 H3
        have H4 := H3.swap
        refine ⟨run_endRound j H4.get.2, ?_⟩
        have H5 : aB w0 (W3.putObj (w.heap.size + 1) (.loop (lN (if j.isNone then .ready else .done) j))) (dh (w.heap.size + 1) (.loop (lN (if j.isNone then .ready else .done) j)) • A3 • dh w.heap.size (.deferred (some [])) • G) := H4.turn rfl rfl rfl (by simp) (World.putObj_heap_same H4.lt) fun k hk _ => World.putObj_heap_other hk
        refine H5.of_eq ?_
        show _ = (((dh (w.heap.size + 1) (.loop (lN (if j.isNone then .ready else .done) j)) • dh w.heap.size (.deferred (some []))) • A3) • G)
        ac_rfl
      rintro e a3 W3 hp
      cases e with
      | normal => obtain ⟨h1, h2⟩ := fin none W3 _ hp; exact ⟨_, _, h1, _, rfl, .inl ⟨rfl, h2⟩⟩
      | ret => obtain ⟨h1, h2⟩ := fin (some .ret) W3 _ hp; exact ⟨_, _, h1, _, rfl, .inr ⟨rfl, aB.gy .ret h2⟩⟩
      | exit id => obtain ⟨h1, h2⟩ := fin (some (.exit id)) W3 _ hp; exact ⟨_, _, h1, _, rfl, .inr ⟨rfl, aB.gy (.exit id) h2⟩⟩
      | goto l => exact hp.elim
      | panic c => exact hp.elim
      | outgrown => exact hp.elim
  have hcall := hit (w.heap.size + 1) (fun k => Lk .ready none • I k) _ _ Ro (H1.of_eq (by
    show _ = (((dh (w.heap.size + 1) (.loop (lN .ready none)) • dh w.heap.size (.deferred (some []))) • I 0) • R)
    ac_rfl))
  obtain ⟨f, first, cap, fn', c, rfl, hf, hn, hb, UD⟩ := hcall
  refine ⟨w.heap.size + 1, _, _, { target := .fn (.func f) cap.toArray, args := (first ++ [Value.func (.yield (w.heap.size + 1)) #[] #[]]).toArray }, (w.alloc (.deferred (some []))).alloc (.loop (lN .ready none)), f, _, (w.alloc (.deferred (some []))).alloc (.loop (lN .ready none)), WT, ?_, fun _ _ => trivial, ?_, (fun h => by cases h), LD.2 (Calls.mono UD ?_)⟩
  · have he := ha.ev hg
    have he2 : a.eval (.const (.func (.yield (w.heap.size + 1)) #[] #[])) = .func (.yield (w.heap.size + 1)) #[] #[] := rfl
    simp [resolve, rangeCall, he, he2, Deferred.ofValue, lN]
  · simp [invoke, callFunc, hf, hb]
    simpa using hn
  · rintro e W2 ⟨v, rfl, hv⟩
    have fin : ∀ (s : LoopState) (j : Option Code) (A : HP), s ≠ .busy → aB w0 W2 ((Lk s j • A) • R) → (Instr.endLoop (w.heap.size + 1)).run P W2 = .ok j (W2.putObj (w.heap.size + 1) (.loop (lN .exhausted j))) ∧
        aB w0 (W2.putObj (w.heap.size + 1) (.loop (lN .exhausted j))) (dh w.heap.size (.deferred (some [])) • A • R) := by
      intro s j A hs H3
      have H4 : aB w0 W2 (dh (w.heap.size + 1) (.loop (lN s j)) • dh w.heap.size (.deferred (some [])) • A • R) := H3.of_eq (by
        show (((dh (w.heap.size + 1) (.loop (lN s j)) • dh w.heap.size (.deferred (some []))) • A) • R) = _
        ac_rfl)
      refine ⟨run_endLoop H4.get.2 hs, ?_⟩
      have H5 : aB w0 (W2.putObj (w.heap.size + 1) (.loop (lN .exhausted j))) (dh (w.heap.size + 1) (.loop (lN .exhausted j)) • dh w.heap.size (.deferred (some [])) • A • R) := H4.turn rfl rfl rfl (by simp) (World.putObj_heap_same H4.lt) fun k hk _ => World.putObj_heap_other hk
      exact H5.right
    have hfit : Fits ⟨N.n, w.heap.size :: N.ds, none⟩ L { a with defers := [{ target := .collected w.heap.size, args := #[] }] ++ a.defers } := ⟨ha.size, by simp [ha.defers, LC], ha.at_⟩
    rcases hv with hv | hv
    · obtain ⟨h1, h2⟩ := fin _ _ _ (by decide) hv
      exact ⟨none, _, h1, hdone _ _ h2 np _ hfit⟩
    · obtain ⟨c, hv⟩ := hv.kH
      obtain ⟨h1, h2⟩ := fin _ _ _ (by decide) hv
      cases c with
      | ret => exact ⟨some .ret, _, h1, wpIn_ret (hret _ _ h2 np _ hfit)⟩
      | exit id => exact ⟨some (.exit id), _, h1, wpIn_exit (UC id _ _ h2 np _ hfit)⟩
      | _ => exact absurd h2.swap.fact.1 id
end
end Go.Proofs.YtgndbccogcofjaaGreatDoor
end
section
namespace Go.Proofs.YtgndbccogcofjaaGreatDoor
open Go.RowKit
open _root_.Go.Proofs.Tryz
def iG (G : List (List dQ)) (N : List dQ) : List (List dQ) := if N = [] then G else G ++ [N]
theorem Ip {G : List (List dQ)} {N : List dQ} (h : N = []) : iG G N = G := by unfold iG; rw [if_pos h]
theorem kR {G : List (List dQ)} {N : List dQ} (h : N ≠ []) : iG G N = G ++ [N] := by unfold iG; rw [if_neg h]
theorem AP {G : List (List dQ)} {N : List dQ} : dO (iG G N) [] = dO G N := by
  unfold iG; split
  · rename_i h; rw [h]
  · simp [dO]
section
variable {w0 w : World} {F : HP} {p : Nat} {G : List (List dQ)} {N : List dQ} {op : Int} {gv nv v : Value} {gs : List (Value × List bZ)} {now es : List bZ} {a : Int} {d z : Value} {dl il : List Int}
theorem tV (H : aB w0 w (dN p G N op • F)) : eG prog 218 #[.pointer (some ⟨p, 0, none⟩)] w fun _ w' => aB w0 w' (dN p (iG G N) [] 0 • F) := by
 refine fP func218 ntmps218 ?_
 dsimp only [aX, Nat.reduceAdd]
 refine ay (ay ?_)
 obtain ⟨tN, qV, iM, iF, gY, nZ, lM, Aw, Az, Eh, jS⟩ := (H).qU
 refine ah (aO rfl (bK rfl (aZ 0 underlying180 rfl sizeOf178 rfl (aZ 1 underlying178 rfl sizeOf35 rfl (dP underlying35 rfl (jS).get.2 rfl (aW (gW ((jS.f4).aT) underlying35 rfl) (aW (dB rfl rfl) (aA (aj (aQ rfl (fun h1 => ?_) (fun h1 => ?_)))))))))))
 ·(try simp only [aI] at h1)
  have UE : 0 < iF.length := by omega
  have Rq := jS.drew
  have sN := aB.kp (Rq.f5.f5.f5.f5.f5)
  refine xJ [5, 10] sN rfl (iq 0 rfl sN rfl (iq 1 rfl sN rfl (jv 2 rfl sN rfl (fU 3 rfl sN 0 underlying180 rfl sizeOf178 rfl (fU 4 rfl sN 0 underlying178 rfl sizeOf176 rfl (iV 5 rfl sN (fun W hW => jr underlying176 rfl ((Kp.h hW)).get.2 rfl) (iq 6 rfl sN rfl (jv 7 rfl sN rfl (fU 8 rfl sN 0 underlying180 rfl sizeOf178 rfl (fU 9 rfl sN 1 underlying178 rfl sizeOf35 rfl (iV 10 rfl sN (fun W hW => jr underlying35 rfl ((Kp.h hW)).get.2 rfl) (jB 11 rfl (kM (vs := [_]) Rq underlying176 sizeOf35 zeroValue35 rfl rfl rfl (by decide) (aC (by first | rfl | exact Rd.one ((Rq.f4).aT)) bP)) ?_))))))))))))
  rintro l2 w2 H2
  have Rt := aB.kp (H2.f6.f6.f6.f6.f6.f6)
  refine dM Rt (fun W hW => (Kp.h hW).right.f5.f5.f5.f5.f5) ?_
  refine jB 12 rfl (gK H2.f3 underlying176 (show (prog.info? 35).map (fun i => (i.zero, i.size, i.bytes)) = some (some (.slice none 0 0), 1, 24) by kernel_rfl) rfl rfl rfl ((H2).aT) (aC (by first | rfl | exact Rd.one ((H2.f5).aT)) bP) (by omega) (by omega)) ?_
  rintro l3 w3 H3
  have WU := H3.f2.right
  have uN := aB.kp (WU.f5.f5.f5.f5.f5)
  refine eX uN (by kernel_rfl) ?_
  refine jv 13 rfl uN rfl (fU 14 rfl uN 0 underlying180 rfl sizeOf178 rfl (fU 15 rfl uN 0 underlying178 rfl sizeOf176 rfl ?_))
  refine eP 16 rfl (by kernel_rfl) (aN 0 (l' := [_, _, _, _, _]) WU.f2 sizeOf176 rfl rfl (by first | rfl | exact Rd.one ((WU).aT)) rfl rfl) ?_
  rintro _ w5 H5
  have Iq := aB.kp (H5.f5.f5.f5.f5.f5)
  refine eX Iq (by kernel_rfl) ?_
  refine oV (aj (ah (aO rfl (aO rfl (bK rfl (aZ 0 underlying180 rfl sizeOf178 rfl (aZ 1 underlying178 rfl sizeOf35 rfl (aG (aN 1 (l' := [_, _, _, _, _]) H5 sizeOf35 rfl rfl (by first | rfl | assumption) rfl rfl) ?_))))))))
  rintro _ w6 H6
  refine bK rfl (aZ 0 underlying180 rfl sizeOf178 rfl (aZ 2 underlying178 rfl sizeOf3 rfl (aG (aN 2 (l' := [_, _, _, _, _]) H6 sizeOf3 rfl rfl (by first | rfl | assumption) rfl rfl) ?_)))
  rintro _ w7 H7
  refine aA (fF (.inr rfl) results218 ?_)
  have hN : N ≠ [] := by rintro rfl; exact absurd Az (by simp only [List.length_nil]; omega)
  rw [kR hN]
  have X := aB.oN (v := qV) (es := iF) (H7.f3.f3.f5.f5).deep
  have X4 := aB.qR X.swap
  refine aB.nN (gv := l3) (nv := .slice none 0 0) (gs := iM ++ [(qV, iF)]) (now := []) (ed := (dO G N : Nat)) ⟨Jy gY.1 hN, by rw [← kR hN, AP]; exact gY.2.1, by decide, by decide, FW gY.2.2.2.2.1 gY.2.2.2.2.2, by simp⟩ (by rw [List.map_append, nZ, ← lM]; rfl) rfl (by rw [← kR hN, AP]) ((X4.nH none).of_eq (by ac_rfl))
 ·(try simp only [aI] at h1)
  have UE : iF.length = 0 := by omega
  refine aS (aj (ah (aO rfl (aO rfl (bK rfl (aZ 0 underlying180 rfl sizeOf178 rfl (aZ 1 underlying178 rfl sizeOf35 rfl (aG (aN 1 (l' := [_, _, _, _, _]) jS sizeOf35 rfl rfl (by first | rfl | assumption) rfl rfl) ?_))))))))
  rintro _ w8 H8
  refine bK rfl (aZ 0 underlying180 rfl sizeOf178 rfl (aZ 2 underlying178 rfl sizeOf3 rfl (aG (aN 2 (l' := [_, _, _, _, _]) H8 sizeOf3 rfl rfl (by first | rfl | assumption) rfl rfl) ?_)))
  rintro _ w9 H9
  refine aA (fF (.inr rfl) results218 ?_)
  have hN : N = [] := by rw [← lM, List.eq_nil_of_length_eq_zero UE]; rfl
  subst hN
  rw [Ip rfl]
  refine aB.nN (gv := tN) (nv := .slice none 0 0) (gs := iM) (now := []) (ed := (dO G [] : Nat)) ⟨gY.1, gY.2.1, by decide, by decide, gY.2.2.2.2⟩ nZ rfl rfl (((H9.f4.right.f4.right.f3.f3).nH none).of_eq (by unfold wW; ac_rfl))
theorem aB.Eo (H : aB w0 w (xE v es • F)) : aB w0 w (xE v es • xE v es • F) := H.zB
theorem KL (b : Nat) : Iter prog w0 (.func (.func 253) #[] #[.pointer (some ⟨b, 0, none⟩)]) (dh b (.cells #[v] 35 (0, 0)) • xE v es) es.length
  (fun k vs A => vs = [.int .i64 ((es.length - (k + 1) : Nat) : Int), .agg (es.getD (es.length - (k + 1)) default).enc.toArray] ∧ A = xE v es) := by
 intro l J X w hy H
 refine ⟨253, [], [.pointer (some ⟨b, 0, none⟩)], _, _, rfl, func253, rfl, rfl, ?_⟩
 have H1 : aB w0 w (dh b (.cells #[v] 35 (0, 0)) • xE v es • J 0) := H.of_eq (by ac_rfl)
 obtain ⟨a, c, hv, hc1, hc2, _⟩ := (H1.swap.vP).form
 subst hv
 simp only [List.nil_append, List.cons_append]
 refine fP func253 ntmps253 ?_
 dsimp only [aX, Nat.reduceAdd]
 refine ay (ah (dP underlying35 rfl (H1).get.2 rfl (aW (gW ((H1.f2).vP) underlying35 rfl) (aW (gU rfl rfl (by omega)) (aV rfl (aA (aj (bg ?_))))))))
 refine ig [(0, _), (1, _)] (fun (k : Nat) => [(3, .int .i64 ((k : Int) - 1))]) (fun (k : Nat) W => k ≤ es.length ∧ aB w0 W (dh b (.cells #[.slice a es.length c] 35 (0, 0)) • xE (.slice a es.length c) es • J (es.length - k))) (fun (k : Nat) => k) (es.length) (Sub.cons rfl (Sub.cons rfl (Sub.nil _))) (Sub.cons rfl (Sub.nil _)) ⟨by omega, by rw [Nat.sub_self]; exact H1⟩ ?_
 rintro k w1 ⟨hk, HL⟩
 dsimp only [List.cons_append, List.nil_append]
 refine ay (ay (ah (aO rfl (aW (jm rfl rfl) (aA (aj (aQ rfl (fun h1 => ?_) (fun h1 => ?_))))))))
 ·(try simp only [aI] at h1)
  try (exfalso; first | contradiction | omega)
  all_goals
   refine aS (aj (ay (bg (ay ?_))))
   obtain ⟨m, rfl⟩ : ∃ m, k = m + 1 := ⟨k - 1, by omega⟩
   rw [show (((m + 1 : Nat) : Int) - 1) = (m : Int) from by omega]
   refine ah (aO rfl (aO rfl (dP underlying35 rfl (HL).get.2 rfl (aO rfl ?_))))
   obtain ⟨bv, ov, cv, ev⟩ := Rd.yX ((HL.f2).vP) (by omega)
   cases ev
   refine aW (iK underlying35 sizeOf101 rfl rfl (by omega)) (aW (jG (ys := [_, _, _]) ((HL.f2).vP) (by omega) underlying101 rfl sizeOf101 rfl (mQ bZ.wU (by omega) default) rfl) (jo (En rfl rfl (hy (es.length - (m + 1)) (by omega) _ _ ⟨by rw [show es.length - (es.length - (m + 1) + 1) = m from by omega]; rfl, rfl⟩ (xE (.slice (some ⟨bv, ov, none⟩) es.length c) es • dh b (.cells #[.slice (some ⟨bv, ov, none⟩) es.length c] 35 (0, 0))) _ (HL.swap.Eo.of_eq (by ac_rfl))).bool) ?_))
   rintro _ w2 ⟨t, rfl, ht1, ht2⟩
   refine aW (kC rfl) (aA (aj (aQ rfl (fun h2 => ?_) (fun h2 => ?_))))
   ·(try simp only [aI] at h2)
    try (exfalso; first | contradiction | omega)
    all_goals
     have HX := ht2 (by simpa using h2)
     refine aJ (aU (aK (aK (aU (fF (.inl rfl) results253 ?_)))))
     exact .inr (HX.of_eq (by ac_rfl))
   ·(try simp only [aI] at h2)
    try (exfalso; first | contradiction | omega)
    all_goals
     have HN : aB w0 w2 (dh b (.cells #[.slice (some ⟨bv, ov, none⟩) es.length c] 35 (0, 0)) • xE (.slice (some ⟨bv, ov, none⟩) es.length c) es • J (es.length - m)) := by
      have h9 := ht1 (by simpa using h2)
      rw [show es.length - (m + 1) + 1 = es.length - m from by omega] at h9
      exact h9.of_eq (by ac_rfl)
     refine aS (aP (aj (ah (aO rfl (aW (gU rfl rfl (by omega)) (aV rfl (aA ?_)))))))
     refine fA (m) ?_ ?_ ?_ ?_
     ·exact (Sub.cons rfl (Sub.nil _))
     ·exact (Sub.cons rfl (Sub.cons rfl (Sub.nil _)))
     ·(try dsimp only)
      first | done | exact ⟨by omega, HN.f2.f2⟩
     ·(try dsimp only); omega
 ·(try simp only [aI] at h1)
  try (exfalso; first | contradiction | omega)
  all_goals
   refine fH (aY (aY (bV (fF (.inr rfl) results253 ?_))))
   obtain rfl : k = 0 := by omega
   rw [Nat.sub_zero] at HL
   exact .inl (HL.of_eq (by ac_rfl))
end
end Go.Proofs.YtgndbccogcofjaaGreatDoor
end
section
namespace Go.Proofs.YtgndbccogcofjaaGreatDoor
open Go.RowKit
open _root_.Go.Proofs.Tryz
def AQ (e : dQ) : dQ := (e.1, e.2.2, e.2.1)
def Na (c : Nat) (es : List bZ) (k : Nat) : HP := qo fun (x : Value × List bZ) => fact (x.2.map bZ.says = ((es.map bZ.says).reverse.take k).map AQ) • dh c (.cells #[x.1] 35 (0, 0)) • Cm x.1 x.2
theorem Nb {es : List bZ} {k : Nat} (hk : k < es.length) : ((es.map bZ.says).reverse.take (k + 1)).map AQ = ((es.map bZ.says).reverse.take k).map AQ ++ [AQ (es.getD (es.length - (k + 1)) default).says] := by
  rw [List.take_succ_eq_append_getElem (by simpa using hk), List.map_append]
  congr 1
  simp only [List.map_cons, List.map_nil, List.getElem_reverse, List.getElem_map, List.length_map]
  rw [List.getD_eq_getElem?_getD, List.getElem?_eq_getElem (by omega)]
  have e : es.length - 1 - k = es.length - (k + 1) := by omega
  simp only [Option.getD_some, e]
section
variable {w0 w : World} {F : HP} {p : Nat} {G : List (List dQ)} {N : List dQ} {op : Int} {gv nv v : Value} {gs : List (Value × List bZ)} {now es : List bZ} {a : Int} {d z : Value} {dl il : List Int}
theorem aB.F6 {c k : Nat} (H : aB w0 w (Na c es k • F)) : ∃ u fs, fs.map bZ.says = ((es.map bZ.says).reverse.take k).map AQ ∧ fs.length ≤ es.length ∧ aB w0 w (dh c (.cells #[u] 35 (0, 0)) • Row 101 3 u fs.length (fs.flatMap bZ.enc) • iL fs • F) := by
  obtain ⟨⟨u, fs⟩, H⟩ := H.kH
  obtain ⟨h, H⟩ := H.flat.fact
  refine ⟨u, fs, h, ?_, ?_⟩
  · have := congrArg List.length h
    simp at this
    omega
  · have := H.flat
    unfold Cm at this
    exact this.of_eq (by ac_rfl)
theorem aB.Nc {c k : Nat} {u : Value} {fs : List bZ} (h : fs.map bZ.says = ((es.map bZ.says).reverse.take k).map AQ) (H : aB w0 w (dh c (.cells #[u] 35 (0, 0)) • Cm u fs • F)) : aB w0 w (Na c es k • F) :=
  aB.gy (u, fs) (aB.deep (aB.je h H.deep))
theorem aB.Ru (H : aB w0 w (xE v es • F)) {k : Nat} (hk : k < es.length) : aB w0 w (zT .i32 (es.getD k default).d (es.getD k default).dl • zT .i32 (es.getD k default).i (es.getD k default).il • xE v es • F) := by
  have h1 : aB w0 w (zT .i32 (es.getD k default).d (es.getD k default).dl • xE v es • xE v es • F) := H.Eo.Eo.BM (qJ (fun I h => (h.2 k hk).1) _)
  have h2 : aB w0 w (zT .i32 (es.getD k default).i (es.getD k default).il • zT .i32 (es.getD k default).d (es.getD k default).dl • xE v es • F) := h1.swap.BM (qJ (fun I h => (h.2 k hk).2) _)
  exact h2.swap
theorem KN (H : aB w0 w F) (hv : v.oneCell' = true) : eG prog 240 #[v] w fun v' w' => ∃ b, v' = .func (.func 253) #[] #[.pointer (some ⟨b, 0, none⟩)] ∧ aB w0 w' (dh b (.cells #[v] 35 (0, 0)) • F) := by
 refine fP func240 ntmps240 ?_
 dsimp only [aX, Nat.reduceAdd]
 refine ay (ah (jo (gV (l := [_]) H rfl (by first | rfl | exact xM (by first | rfl | assumption))) ?_))
 rintro _ w1 ⟨b1, rfl, H1⟩
 refine aV rfl (aA (aj (ay (ah (aW (rJ rfl rfl) (aV rfl (aA (aj (aJ (aH (.inl rfl) results240 rfl ?_))))))))))
 exact ⟨_, rfl, H1⟩
theorem wZ (H : aB w0 w (xE v es • F)) (hB : ∀ k, k < es.length → EB (es.getD k default).says) (hL : es.length ≤ 16384) :
  eG prog 219 #[v] w fun v' w' => ∃ fs : List bZ, fs.map bZ.says = (es.map bZ.says).reverse.map AQ ∧ aB w0 w' (Row 101 3 v' fs.length (fs.flatMap bZ.enc) • iL fs • xE v es • F) := by
 refine fP func219 ntmps219 ?_
 dsimp only [aX, Nat.reduceAdd]
 refine ay (ah (aV rfl (aA (aj (ay (ah (jo (fJ (l := [_]) H zeroValue35 rfl) ?_)))))))
 rintro _ w1 ⟨b1, rfl, H1⟩
 refine aA (aj (ay (ay (ah (aO rfl (dn rfl func240 (KN H1 (Rd.one ((H1.f2).vP))) ?_))))))
 rintro _ w2 ⟨bB2, rfl, H2⟩
 refine aA (aj (bg ?_))
 have ZY := H2.f2
 have Z4 := aB.Nc (es := es) (k := 0) (fs := []) rfl (ZY.nH none).swap
 refine rX rfl (KL bB2) (fun k => Na b1 es k • F) (fact False) (fun _ => fact False) (Z4.f3.f3.f3.f3.f3.g2.comm) (by rfl) ?_ ?_ ?_ ?_
 ·rintro l5 k Rw vs5 A5 ⟨rfl, rfl⟩ G5 w5 H5
  try simp only [bQ, iO, ou] at H5
  refine ⟨rfl, ?_⟩
  dsimp only [Io]
  have Hq := (H5).Ru (k := es.length - (k + 1)) (by omega)
  obtain ⟨hb1, hb2⟩ := hB (es.length - (k + 1)) (by omega)
  have hb1 : (es.getD (es.length - (k + 1)) default).dl.length ≤ 35184372087808 := hb1
  have hb2 : (es.getD (es.length - (k + 1)) default).il.length ≤ 35184372087808 := hb2
  obtain ⟨u, fs, hfs, hfl, HI⟩ := (Hq.f4).F6
  refine ah (jo (fJ (l := [_, _, _]) HI zeroValue101 rfl) ?_)
  rintro _ w6 ⟨b6, rfl, H6⟩
  refine aG (cO 0 (l' := [_, _, _]) (us := [_, _, _]) H6 sizeOf101 rfl rfl rfl (aC (by first | rfl | assumption) (aC (by first | rfl | exact Rd.one ((H6.f5).DW)) (aC (by first | rfl | exact Rd.one ((H6.f6).DW)) bP))) rfl rfl) ?_
  rintro _ w7 H7
  refine aA ?_
  refine Il (H7.g8) ?_
  intro G8 w8 H8
  try simp only [bQ] at H8
  refine bg ?_
  have UF := H8.drew
  have Nh := aB.kp (UF.f7.f7.f7.f7.f7.f7.f7)
  refine xJ [0, 1] Nh rfl (iV 0 rfl Nh (fun W hW => jr underlying35 rfl ((Kp.h hW).f2).get.2 rfl) (iV 1 rfl Nh (fun W hW => bW underlying101 rfl sizeOf101 rfl rfl ((Kp.h hW)).get.2) (jB 2 rfl (vK rfl func241 (xY UF (fun W HW => (HW.f5).DW) (fun W HW => (HW.f6).DW) (by omega) (by omega))) ?_)))
  rintro _ w9 ⟨d9, s9, rfl, H9⟩
  have Ii := aB.kp (H9.f9.f9.f9.f9.f9.f9.f9.f9.f9)
  refine dM Ii (fun W hW => (Kp.h hW).right.right.f7.f7.f7.f7.f7.f7.f7) ?_
  refine jB 3 rfl (oI H9 underlying35 sizeOf101 zeroValue101 rfl rfl rfl (by decide) (by decide)) ?_
  rintro l10 w10 ng
  have Dt := aB.kp (ng.f10.f10.f10.f10.f10.f10.f10.f10.f10.f10)
  refine dM Dt (fun W hW => (Kp.h hW).right.f9.f9.f9.f9.f9.f9.f9.f9.f9) ?_
  refine jB 4 rfl (gK ng.f6 underlying35 (show (prog.info? 101).map (fun i => (i.zero, i.size, i.bytes)) = some (some (.agg #[.int .i64 0, .slice none 0 0, .slice none 0 0]), 3, 56) by kernel_rfl) rfl rfl rfl ((ng).aT) (aC (by first | rfl | assumption) (aC (by first | rfl | exact Rd.one ((ng.f2).aT)) (aC (by first | rfl | exact Rd.one ((ng.f3).aT)) bP))) (by omega) (by omega)) ?_
  rintro Z5 Ht wB
  have Ir := wB.f2.right
  have wY := aB.kp (Ir.f9.f9.f9.f9.f9.f9.f9.f9.f9)
  refine eX wY (by kernel_rfl) ?_
  refine eP 5 rfl (by kernel_rfl) (aN 0 (l' := [_]) Ir.f5 sizeOf35 rfl rfl (by first | rfl | exact Rd.one ((Ir).aT)) rfl rfl) ?_
  rintro _ Me uX
  have uY := aB.kp (uX.f9.f9.f9.f9.f9.f9.f9.f9.f9)
  refine eX uY (by kernel_rfl) ?_
  refine oV (aP ?_)
  refine AO ?_
  have X := (uX.f5.right.f6.right.f6.right.f6.right.f6.f2.f6.f4.f6.f6).jf.swap.jf.swap
  have X2 := aB.qQ X.f3
  exact (aB.Nc (es := es) (k := k + 1) (by rw [List.map_append, hfs, Nb (by omega)]; rfl) X2.swap).deep
 ·rintro Z7 Ky wM
  have FQ := wM.ed
  try simp only [bQ, iO, ou] at FQ
  have Rx := FQ.Jh
  obtain ⟨u, fs, hfs, hfl, HI⟩ := (Rx.f4).F6
  refine aP (aj (ay (ah (dP underlying35 rfl (HI).get.2 rfl (aV rfl (aA (aj (aJ ?_))))))))
  refine zk (.inl rfl) (HI.f4) (fun MB wC => ?_)
  refine ⟨_, QO results219 rfl, ?_⟩
  rw [List.take_of_length_le (by simp)] at hfs
  exact ⟨_, hfs, wC.right.f3.right.f3.f3.f3⟩
 ·rintro D w H; exact absurd H.swap.fact.1 id
 ·rintro id D w H; exact absurd H.swap.fact.1 fun h => h
end
end Go.Proofs.YtgndbccogcofjaaGreatDoor
end
