import Derived.Test.YtgndbccogcofjaaGreatDoorZ2
import Derived.Test.YtgndbccogcofjaaGreatDoorZ3
import Derived.Test.YtgndbccogcofjaaGreatDoorZ4
import Derived.Test.YtgndbccogcofjaaGreatDoorZ9
set_option linter.unusedSimpArgs false
set_option linter.unusedVariables false
/- Texts of mine, joined, their names in short: LitS Eds UList Range UList2 UList3. -/
section
namespace Go.Proofs.YtgndbccogcofjaaGreatDoor
open Go.RowKit
section
variable {P : Program} {L : List (Nat × Value)} {w0 w : World} {F : HP} {ty : TypeId}
theorem Jr (l : List Value) : ∀ (i : Nat) (cells : Array Value), cells.size = i + l.length → (l.zipIdx i).foldl (fun cs (x : Value × Nat) => cs.setIfInBounds (0 + x.2) x.1) cells = (cells.toList.take i ++ l).toArray := by
  induction l with
  | nil => intro i cells hs; simp [List.take_of_length_le (show cells.toList.length ≤ i by simp; simp at hs; omega)]
  | cons v r ih =>
    intro i cells hs
    rw [List.zipIdx_cons, List.foldl_cons]
    rw [ih (i + 1) _ (by simp at hs ⊢; omega)]
    congr 1
    have hi : i < cells.toList.length := by simp at hs ⊢; omega
    rw [Array.toList_setIfInBounds, Nat.zero_add, List.take_succ_eq_append_getElem (by simpa using hi), List.take_set_of_le (Nat.le_refl _)]
    simp
theorem pz {t e sz : Nat} {x : Operand} {cs : Array Value} {z : Value} (H : aB w0 w F) (ht : P.underlying t = some (.slice e)) (hs : ∀ w, (sizeOf e).run P w = .ok sz w) (hz : ∀ w, (zeroValue e).run P w = .ok z w) (hz1 : z.cells.size = sz)
    (hx : ev L x = some (.agg cs)) (hn : cs.size = sz) (h0 : 0 < sz) (NR : sz ≤ 16777216) :
    pJ P L (.buildSlice t 1 #[(0, x)]) ty w fun v w' => aB w0 w' (Row e sz v 1 cs.toList • F) := by
  refine nD (v := .slice (some ⟨w.heap.size, 0, none⟩) 1 1) (w' := w.alloc (.cells cs e)) ?_ ?_
  · intro ρ hρ d pos kS g
    simp only [execOp, Instr.buildSlice, Sem.run_bind, run_underlying ht, Result.andThen_ok, hs]
    rw [if_neg (by omega), if_neg (by omega)]
    have hf : ∀ q : Array Value, q.size = sz → Instr.fill (fun i => some (i * sz, sz)) q [(0, .agg cs)] = some cs := fun q hq => by
      simp only [Instr.fill, Value.cells, hn]
      rw [if_neg (by simp [hq])]
      have := Jr cs.toList 0 q (by simp [hn, hq])
      simp only [Nat.zero_mul]
      rw [← Array.foldl_toList, Array.toList_zipIdx]
      simpa using this
    have hf1 := hf ((Array.range sz).map (z.cells[· % z.cells.size]!)) (by simp)
    simp [hz, hρ _ _ hx, hf1, newRow]
  · refine (H.alloc _).tC (by simp [hn]) rfl (Nat.le_refl _) (by omega) (by simp [hn]) fun j hj => ?_
    rw [Nat.zero_add, List.getD_eq_getElem?_getD]
    have : j < cs.size := by omega
    simp [this]
theorem Oq (l : List Value) : ∀ (o i : Nat) (cells : Array Value), o + i + l.length ≤ cells.size → (l.zipIdx i).foldl (fun cs (x : Value × Nat) => cs.setIfInBounds (o + x.2) x.1) cells = (cells.toList.take (o + i) ++ l ++ cells.toList.drop (o + i + l.length)).toArray := by
  induction l with
  | nil => intro o i cells hs; simp
  | cons v r ih =>
    intro o i cells hs
    rw [List.zipIdx_cons, List.foldl_cons]
    rw [ih o (i + 1) _ (by simp at hs ⊢; omega)]
    congr 1
    simp only [List.length_cons] at hs ⊢
    have hi : o + i < cells.toList.length := by rw [Array.length_toList]; omega
    rw [Array.toList_setIfInBounds, show o + (i + 1) = o + i + 1 from by omega, List.take_succ_eq_append_getElem (by simpa using hi), List.take_set_of_le (Nat.le_refl _), List.drop_set_of_lt (by omega)]
    simp
    omega
end
section
variable {w0 w : World} {F : HP}
end
end Go.Proofs.YtgndbccogcofjaaGreatDoor
end
section
namespace Go.Proofs.YtgndbccogcofjaaGreatDoor
open Go.RowKit
structure cO where
  a : Int
  d : Value
  dl : List Int
  i : Value
  il : List Int
instance : Inhabited cO := ⟨⟨0, .slice none 0 0, [], .slice none 0 0, []⟩⟩
def cO.enc (e : cO) : List Value := [.int .i64 e.a, e.d, e.i]
theorem cO.yw (e : cO) : e.enc.length = 3 := rfl
def cO.UE (I : Hp) (e : cO) : Prop := wC I .i32 e.d e.dl ∧ wC I .i32 e.i e.il
theorem cO.UE.mono {I I' : Hp} {e : cO} (hl : Hp.le I I') (h : e.UE I) : e.UE I' := ⟨h.1.mono hl, h.2.mono hl⟩
def cO.says (e : cO) : Int × List Int × List Int := (e.a, e.dl, e.il)
def Ag (I : Hp) (es : List cO) : Prop := ∀ k, k < es.length → (es.getD k default).UE I
theorem Ag.mono {I I' : Hp} {es : List cO} (hl : Hp.le I I') (h : Ag I es) : Ag I' es := fun k hk => (h k hk).mono hl
theorem Ag.app {I : Hp} {es fs : List cO} (h : Ag I es) (g : Ag I fs) : Ag I (es ++ fs) := fun k hk => by
  by_cases hl : k < es.length
  · rw [og hl]; exact h k hl
  · rw [lZ (by omega)]; exact g _ (by simp at hk; omega)
theorem Ag.one {I : Hp} {e : cO} (h : e.UE I) : Ag I [e] := fun k hk => by
  obtain rfl : k = 0 := by simp at hk; omega
  exact h
def iR (es : List cO) : HP := know (fun I => Ag I es) fun _ _ hl h => h.mono hl
def edK (e : cO) : HP := know (fun I => e.UE I) fun _ _ hl h => h.mono hl
def DX (v : Value) (es : List cO) : HP := Row 101 3 v es.length (es.flatMap cO.enc) • iR es
def Hz (I : Hp) (sz : Nat) (v : Value) (n : Nat) (xs : List Value) : Prop := xs.length = n * sz ∧ ∃ a c, v = .slice a n c ∧ n ≤ c ∧ (c : Int) ≤ 9223372036854775807 ∧
  (0 < n → ∃ b o cs e fr, a = some ⟨b, o, none⟩ ∧ I b = some (.cells cs e fr) ∧ ∀ j, j < n * sz → cs[o + j]? = some (xs.getD j undef))
theorem Hz.mono {I I' : Hp} {sz n : Nat} {v : Value} {xs : List Value} (hl : Hp.le I I') (h : Hz I sz v n xs) : Hz I' sz v n xs := by
  obtain ⟨h0, a, c, h1, h2, h3, h4⟩ := h
  exact ⟨h0, a, c, h1, h2, h3, fun hp => let ⟨b, o, cs, e, fr, e1, e2, e3⟩ := h4 hp; ⟨b, o, cs, e, fr, e1, hl _ _ e2, e3⟩⟩
theorem Hz.rd {w : World} {m : Nat} {I : Hp} {sz n : Nat} {v : Value} {xs : List Value} (h : Hz I sz v n xs) (hI : ∀ k o, I k = some o → m ≤ k ∧ w.heap[k]? = some o) : Rd w sz v n xs := by
  obtain ⟨h0, a, c, h1, h2, h3, h4⟩ := h
  exact ⟨h0, a, c, h1, h2, h3, fun hp => let ⟨b, o, cs, e, fr, e1, e2, e3⟩ := h4 hp; ⟨b, o, e1, fun j hj => fK (hI _ _ e2).2 (e3 j hj)⟩⟩
theorem Hz.Ol {I : Hp} {sz n : Nat} {v : Value} {xs : List Value} (h : Hz I sz v n xs) : v.oneCell' = true := by obtain ⟨_, a, c, rfl, _⟩ := h; rfl
def UF (I : Hp) (v : Value) (es : List cO) : Prop := Hz I 3 v es.length (es.flatMap cO.enc) ∧ Ag I es
theorem UF.mono {I I' : Hp} {v : Value} {es : List cO} (hl : Hp.le I I') (h : UF I v es) : UF I' v es := ⟨h.1.mono hl, h.2.mono hl⟩
def yS (v : Value) (es : List cO) : HP := know (fun I => UF I v es) fun _ _ hl h => h.mono hl
def yx (I : Hp) (gs : List (Value × List cO)) : Prop := ∀ k, k < gs.length → UF I (gs.getD k default).1 (gs.getD k default).2
theorem yx.mono {I I' : Hp} {gs : List (Value × List cO)} (hl : Hp.le I I') (h : yx I gs) : yx I' gs := fun k hk => (h k hk).mono hl
theorem yx.app {I : Hp} {es fs : List (Value × List cO)} (h : yx I es) (g : yx I fs) : yx I (es ++ fs) := fun k hk => by
  by_cases hl : k < es.length
  · rw [og hl]; exact h k hl
  · rw [lZ (by omega)]; exact g _ (by simp at hk; omega)
theorem yx.one {I : Hp} {v : Value} {es : List cO} (h : UF I v es) : yx I [(v, es)] := fun k hk => by
  obtain rfl : k = 0 := by simp at hk; omega
  exact h
theorem yx.take {I : Hp} {gs : List (Value × List cO)} (h : yx I gs) (n : Nat) : yx I (gs.take n) := fun k hk => by
  simp at hk
  rw [y9 (by omega)]
  exact h k (by omega)
def mg (gs : List (Value × List cO)) : HP := know (fun I => yx I gs) fun _ _ hl h => h.mono hl
def yA (v : Value) (gs : List (Value × List cO)) : HP := Row 35 1 v gs.length (gs.map (·.1)) • mg gs
section
variable {w0 w : World} {F : HP} {v u : Value} {es fs : List cO} {e : cO} {gs : List (Value × List cO)} {a : Int} {d i : Value} {dl il : List Int}
theorem aB.BR (H : aB w0 w F) : aB w0 w (iR [] • F) := H.Fa fun I k hk => by simp at hk
theorem aB.HY (H : aB w0 w F) : aB w0 w (mg [] • F) := H.Fa fun I k hk => by simp at hk
theorem aB.oh (H : aB w0 w F) (a : Option Addr) : aB w0 w (DX (.slice a 0 0) [] • F) := (H.BR.jd (e := 101) (sz := 3) a).deep
theorem aB.yB (H : aB w0 w F) (a : Option Addr) : aB w0 w (yA (.slice a 0 0) [] • F) := (H.HY.jd (e := 35) (sz := 1) a).deep
theorem aB.UG (H : aB w0 w (DX v es • F)) : aB w0 w (Row 101 3 v es.length (es.flatMap cO.enc) • iR es • F) := H.flat
theorem aB.Tz (H : aB w0 w (yA v gs • F)) : aB w0 w (Row 35 1 v gs.length (gs.map (·.1)) • mg gs • F) := H.flat
theorem aB.rZ (H : aB w0 w (Row 101 3 v (es.length + 1) (es.flatMap cO.enc ++ [.int .i64 a, d, i]) • Bl .i32 d dl • Bl .i32 i il • iR es • F)) : aB w0 w (DX v (es ++ [⟨a, d, dl, i, il⟩]) • F) := by
  have h1 : aB w0 w (Bl .i32 d dl • Bl .i32 i il • iR es • Row 101 3 v (es.length + 1) (es.flatMap cO.enc ++ [.int .i64 a, d, i]) • F) := H.of_eq (by ac_rfl)
  have h2 : aB w0 w (edK ⟨a, d, dl, i, il⟩ • iR es • Row 101 3 v (es.length + 1) (es.flatMap cO.enc ++ [.int .i64 a, d, i]) • F) := h1.Dy (oq (fun I h g => ⟨h, g⟩) _)
  have h3 : aB w0 w (iR (es ++ [⟨a, d, dl, i, il⟩]) • Row 101 3 v (es.length + 1) (es.flatMap cO.enc ++ [.int .i64 a, d, i]) • F) := h2.Dy (oq (fun I h g => g.app (Ag.one h)) _)
  refine aB.deep (h3.swap.of_eq ?_)
  rw [List.length_append, List.flatMap_append]
  simp [cO.enc]
theorem aB.pW (H : aB w0 w (DX v es • F)) : aB w0 w (yS v es • F) := by
  have hl := H.UG.xW
  have H := H.UG
  rcases H.rM with ⟨a, rfl, h1, h2, H1⟩ | ⟨g, o, c, cur, rfl, h2, h3, h4, h5, H1⟩
  · refine H1.Dy (rP (fun I hI => ⟨⟨hl, a, 0, by rw [h1], by omega, by decide, fun h => by omega⟩, hI⟩) F)
  · exact H1.freeze.Dy (oq (fun I hI hE => ⟨⟨hl, _, c, rfl, h2, h3, fun _ => ⟨g, o, cur, _, (0, 0), rfl, hI, h5⟩⟩, hE⟩) F)
theorem aB.xg (H : aB w0 w (yS v es • F)) : Rd w 3 v es.length (es.flatMap cO.enc) := let ⟨I, h, hI⟩ := H.sV; h.1.rd hI
theorem aB.Vw (H : aB w0 w (yS v es • F)) {k : Nat} (hk : k < es.length) : jR w .i32 (es.getD k default).d (es.getD k default).dl := let ⟨I, h, hI⟩ := H.sV; (h.2 k hk).1.rd hI
theorem aB.Vx (H : aB w0 w (yS v es • F)) {k : Nat} (hk : k < es.length) : jR w .i32 (es.getD k default).i (es.getD k default).il := let ⟨I, h, hI⟩ := H.sV; (h.2 k hk).2.rd hI
theorem aB.Ia (H : aB w0 w (mg gs • F)) {k : Nat} (hk : k < gs.length) : aB w0 w (yS (gs.getD k default).1 (gs.getD k default).2 • mg gs • F) := H.AP.Dy (rP (fun I h => h k hk) _)
theorem aB.Ot (H : aB w0 w (mg gs • F)) (n : Nat) : aB w0 w (mg (gs.take n) • F) := H.Dy (rP (fun I h => h.take n) _)
theorem aB.su (H : aB w0 w (Row 35 1 v (gs.length + 1) (gs.map (·.1) ++ [u]) • yS u es • mg gs • F)) : aB w0 w (yA v (gs ++ [(u, es)]) • F) := by
  have h1 : aB w0 w (yS u es • mg gs • Row 35 1 v (gs.length + 1) (gs.map (·.1) ++ [u]) • F) := H.of_eq (by ac_rfl)
  have h3 : aB w0 w (mg (gs ++ [(u, es)]) • Row 35 1 v (gs.length + 1) (gs.map (·.1) ++ [u]) • F) := h1.Dy (oq (fun I h g => g.app (yx.one h)) _)
  refine aB.deep (h3.swap.of_eq ?_)
  rw [List.length_append, List.map_append]
  rfl
theorem aB.BU (H : aB w0 w (iR es • F)) : ∀ x ∈ es.flatMap cO.enc, x.oneCell' = true := by
  obtain ⟨I, h, hI⟩ := H.sV
  intro x hx
  obtain ⟨e, he, hx⟩ := List.mem_flatMap.1 hx
  obtain ⟨k, hk, rfl⟩ := List.getElem_of_mem he
  have := h k hk
  rw [List.getD_eq_getElem?_getD, List.getElem?_eq_getElem hk] at this
  simp [cO.enc] at hx
  rcases hx with rfl | rfl | rfl
  · rfl
  · exact this.1.Ol
  · exact this.2.Ol
end
end Go.Proofs.YtgndbccogcofjaaGreatDoor
end
section
namespace Go.Proofs.YtgndbccogcofjaaGreatDoor
open Go.RowKit
open _root_.Go.Proofs.Tryz
abbrev dU := Int × List Int × List Int
def dR (G : List (List dU)) (N : List dU) : Nat := (G.map List.length).sum + N.length
def EB (e : dU) : Prop := e.2.1.length ≤ 35184372087808 ∧ e.2.2.length ≤ 35184372087808
theorem QC {N : List dU} {x : dU} (h : ∀ e ∈ N, EB e) (hx : EB x) : ∀ e ∈ N ++ [x], EB e := fun e he => by
  rcases List.mem_append.1 he with he | he
  · exact h e he
  · rw [List.mem_singleton.1 he]; exact hx
theorem Ib {G : List (List dU)} {N : List dU} (h : ∀ g ∈ G, ∀ e ∈ g, EB e) (hx : ∀ e ∈ N, EB e) : ∀ g ∈ G ++ [N], ∀ e ∈ g, EB e := fun g hg => by
  rcases List.mem_append.1 hg with hg | hg
  · exact h g hg
  · rw [List.mem_singleton.1 hg]; exact hx
theorem KJ {G : List (List dU)} {N : List dU} (h : ∀ g ∈ G, g ≠ []) (hx : N ≠ []) : ∀ g ∈ G ++ [N], g ≠ [] := fun g hg => by
  rcases List.mem_append.1 hg with hg | hg
  · exact h g hg
  · rw [List.mem_singleton.1 hg]; exact hx
def QD (G : List (List dU)) (N : List dU) (op : Int) : Prop := (∀ g ∈ G, g ≠ []) ∧ dR G N ≤ 16384 ∧ 0 ≤ op ∧ op ≤ 4611686018427387904 ∧ (∀ g ∈ G, ∀ e ∈ g, EB e) ∧ ∀ e ∈ N, EB e
theorem Js {G : List (List dU)} (h : ∀ g ∈ G, g ≠ []) : G.length ≤ (G.map List.length).sum := by
  induction G with
  | nil => simp
  | cons g G ih =>
    have h1 := ih fun x hx => h x (by simp [hx])
    have h2 : 0 < g.length := List.length_pos_iff.2 (h g (by simp))
    simp; omega
theorem QD.len {G : List (List dU)} {N : List dU} {op : Int} (h : QD G N op) : G.length + N.length ≤ 16384 := by
  have := Js h.1
  have := h.2.1
  unfold dR at this
  omega
def dQ (p : Nat) (G : List (List dU)) (N : List dU) (op : Int) : HP := qW fun (x : Value × Value × List (Value × List cO) × List cO) =>
  fact (QD G N op ∧ x.2.2.1.map (fun g => g.2.map cO.says) = G ∧ x.2.2.2.map cO.says = N) • dB p (.cells #[x.1, x.2.1, .int .i64 op, .int .i64 (dR G N : Nat), .bool true] 180 (0, 0)) • yA x.1 x.2.2.1 • DX x.2.1 x.2.2.2
section
variable {w0 w : World} {F : HP} {p : Nat} {G : List (List dU)} {N : List dU} {op : Int} {gv nv : Value} {gs : List (Value × List cO)} {now : List cO} {a : Int} {d z : Value} {dl il : List Int}
theorem aB.sD (H : aB w0 w (dQ p G N op • F)) : ∃ gv nv gs now, QD G N op ∧ gs.map (fun g => g.2.map cO.says) = G ∧ now.map cO.says = N ∧ gs.length = G.length ∧ now.length = N.length ∧ G.length + N.length ≤ 16384 ∧
    aB w0 w (dB p (.cells #[gv, nv, .int .i64 op, .int .i64 (dR G N : Nat), .bool true] 180 (0, 0)) • Row 35 1 gv gs.length (gs.map (·.1)) • mg gs • Row 101 3 nv now.length (now.flatMap cO.enc) • iR now • F) := by
  obtain ⟨⟨gv, nv, gs, now⟩, H⟩ := H.lg
  obtain ⟨⟨h1, h2, h3⟩, H⟩ := H.flat.fact
  refine ⟨gv, nv, gs, now, h1, h2, h3, ?_, ?_, h1.len, ?_⟩
  · rw [← h2]; simp
  · rw [← h3]; simp
  · have := H.flat
    unfold yA DX at this
    exact this.of_eq (by ac_rfl)
theorem aB.oD (h1 : QD G N op) (h2 : gs.map (fun g => g.2.map cO.says) = G) (h3 : now.map cO.says = N) {ed : Int} (he : ed = (dR G N : Nat))
    (H : aB w0 w (dB p (.cells #[gv, nv, .int .i64 op, .int .i64 ed, .bool true] 180 (0, 0)) • yA gv gs • DX nv now • F)) : aB w0 w (dQ p G N op • F) := by
  subst he
  exact aB.gQ (gv, nv, gs, now) (aB.deep (aB.jq ⟨h1, h2, h3⟩ (H.of_eq (by ac_rfl))))
theorem aB.jg (h1 : QD G N op) (h2 : gs.map (fun g => g.2.map cO.says) = G) (h3 : now.map cO.says = N) {ed : Int} (he : ed = (dR G N : Nat))
    (H : aB w0 w (dB p (.cells #[gv, nv, .int .i64 op, .int .i64 ed, .bool true] 180 (0, 0)) • Row 35 1 gv gs.length (gs.map (·.1)) • mg gs • Row 101 3 nv now.length (now.flatMap cO.enc) • iR now • F)) : aB w0 w (dQ p G N op • F) :=
  aB.oD h1 h2 h3 he (H.of_eq (by unfold yA DX; ac_rfl))
theorem iI (H : aB w0 w (dQ p G N op • F)) : fA prog 181 #[.pointer (some ⟨p, 0, none⟩)] w fun v w' => v = .bool false ∧ w = w' := by
 refine fU func181 ntmps181 ?_
 dsimp only [aY, Nat.reduceAdd]
 refine ay (ah (aU rfl (aA (aj (ay ?_)))))
 obtain ⟨vk, sF, iW, iO, iy, oN, mM, BX, BZ, FN, kK⟩ := (H).sD
 refine ah (aO rfl (aW (eu underlying117 rfl rfl) (gB rfl (fun h1 => ?_) (fun h1 => ?_))))
 ·(try simp only [aH] at h1)
  try (exfalso; first | contradiction | omega)
  all_goals
   refine bD (bD (bD (bD (bD (fQ rfl rfl (aU rfl (aA (aj (aJ (aI (.inl rfl) results181 rfl ?_))))))))))
   exact ⟨rfl, rfl⟩
 ·(try simp only [aH] at h1)
  try (exfalso; first | contradiction | omega)
  all_goals
   refine bf (aO rfl (bf (bP rfl (bf (bg 4 underlying180 rfl sizeOf4 rfl (bf (dS underlying4 rfl (kK).get.2 rfl (bf (aW (jS rfl) (fG rfl rfl (aU rfl (aA (aj (aJ (aI (.inl rfl) results181 rfl ?_)))))))))))))))
   exact ⟨rfl, rfl⟩
theorem FP (H : aB w0 w F) : fA prog 215 #[] w fun v w' => ∃ p, v = .pointer (some ⟨p, 0, none⟩) ∧ aB w0 w' (dQ p [] [] 0 • F) := by
 refine fU func215 ntmps215 ?_
 dsimp only [aY, Nat.reduceAdd]
 refine ay (ah (aU rfl (aA (aj (ay (ah (aW (dW (pl := #[(0, 4), (4, 1)]) (#[_, _, _, _, _]) underlying180 zeroValue180 (fun w => by kernel_rfl) rfl (rfl)) (ji (iG (l := [_, _, _, _, _]) H rfl rfl) ?_))))))))
 rintro _ w1 ⟨b1, rfl, H1⟩
 refine aU rfl (aA (aj (aJ (aI (.inl rfl) results215 rfl ?_))))
 refine ⟨_, rfl, aB.oD (gv := .slice none 0 0) (nv := .slice none 0 0) (gs := []) (now := []) ⟨by simp, by decide, by decide, by decide, by simp, by simp⟩ rfl rfl rfl ?_⟩
 exact (((H1).oh none).yB none).of_eq (by ac_rfl)
theorem Cb (H : aB w0 w (dQ p G N op • F)) : fA prog 194 #[.pointer (some ⟨p, 0, none⟩)] w fun v w' => v = .int .i64 (dR G N : Nat) ∧ aB w0 w' (dQ p G N op • F) := by
 refine fU func194 ntmps194 ?_
 dsimp only [aY, Nat.reduceAdd]
 refine ay (ah (aU rfl (aA (aj (ay (ay (ah (aO rfl (bZ rfl func181 (iI H) ?_)))))))))
 rintro _ _ ⟨rfl, rfl⟩
 refine aA (aj (oK (aP (aj (ay ?_)))))
 obtain ⟨vk, sF, iW, iO, iy, oN, mM, BX, BZ, FN, kK⟩ := (H).sD
 refine ah (aO rfl (bP rfl (bg 0 underlying180 rfl sizeOf178 rfl (bg 3 underlying178 rfl sizeOf3 rfl (dS underlying3 rfl (kK).get.2 rfl (aU rfl (aA (aj (aJ (aI (.inl rfl) results194 rfl ?_))))))))))
 have Ou := kK.f5.f5.f5.f5.f5
 have Ov := aB.jg iy oN mM rfl Ou
 exact ⟨rfl, Ov⟩
theorem pX (H : aB w0 w (dQ p G N op • F)) (hb : op < 4611686018427387904) : fA prog 163 #[.pointer (some ⟨p, 0, none⟩)] w fun v w' => v = .int .i64 0 ∧ aB w0 w' (dQ p G N (op + 1) • F) := by
 have hop : 0 ≤ op := by obtain ⟨gv, nv, gs, now, k1, _⟩ := H.sD; exact k1.2.2.1
 refine fU func163 ntmps163 ?_
 dsimp only [aY, Nat.reduceAdd]
 refine ay (ah (aU rfl (aA (aj (ay (ay (ah (aO rfl (bZ rfl func181 (iI H) ?_)))))))))
 rintro _ _ ⟨rfl, rfl⟩
 refine aA (aj (oK (aP (aj (ay ?_)))))
 obtain ⟨vk, sF, iW, iO, iy, oN, mM, BX, BZ, FN, kK⟩ := (H).sD
 refine ah (aO rfl (bP rfl (bg 0 underlying180 rfl sizeOf178 rfl (bg 2 underlying178 rfl sizeOf3 rfl (dS underlying3 rfl (kK).get.2 rfl (aW (fP rfl rfl (by omega)) (bP rfl (bg 0 underlying180 rfl sizeOf178 rfl (bg 2 underlying178 rfl sizeOf3 rfl (aG (aQ 2 (l' := [_, _, _, _, _]) kK sizeOf3 rfl rfl (by first | rfl | assumption) rfl rfl) ?_))))))))))
 rintro _ w3 H3
 refine aA (aj (ay (ah (aU rfl (aA (aj (aJ (aI (.inl rfl) results163 rfl ?_))))))))
 exact ⟨rfl, aB.jg ⟨iy.1, iy.2.1, by omega, by omega, iy.2.2.2.2⟩ oN mM rfl H3.f5.f5.f5.f5.f5⟩
def oO (G : List (List dU)) (N : List dU) (a : Int) (dl il : List Int) : Int := if dl.length + il.length = 0 ∨ a < 0 then 1 else if 16384 ≤ dR G N then 3 else 0
def Jt (G : List (List dU)) (N : List dU) (op a : Int) (dl il : List Int) : List (List dU) := if oO G N a dl il = 0 then (if 0 < op then G else G ++ [[(a, dl, il)]]) else G
def Ju (G : List (List dU)) (N : List dU) (op a : Int) (dl il : List Int) : List dU := if oO G N a dl il = 0 then (if 0 < op then N ++ [(a, dl, il)] else N) else N
theorem FQ {x : dU} : dR G (N ++ [x]) = dR G N + 1 := by simp [dR]; omega
theorem Ic {x : dU} : dR (G ++ [[x]]) N = dR G N + 1 := by simp [dR]; omega
theorem Cc (h : oO G N a dl il ≠ 0) : Jt G N op a dl il = G := by unfold Jt; rw [if_neg h]
theorem Ce (h : oO G N a dl il ≠ 0) : Ju G N op a dl il = N := by unfold Ju; rw [if_neg h]
theorem Au (h : oO G N a dl il = 0) (ho : 0 < op) : Jt G N op a dl il = G := by unfold Jt; rw [if_pos h, if_pos ho]
theorem Aw (h : oO G N a dl il = 0) (ho : 0 < op) : Ju G N op a dl il = N ++ [(a, dl, il)] := by unfold Ju; rw [if_pos h, if_pos ho]
theorem Ox (h : oO G N a dl il = 0) (ho : ¬ 0 < op) : Jt G N op a dl il = G ++ [[(a, dl, il)]] := by unfold Jt; rw [if_pos h, if_neg ho]
theorem Oy (h : oO G N a dl il = 0) (ho : ¬ 0 < op) : Ju G N op a dl il = N := by unfold Ju; rw [if_pos h, if_neg ho]
theorem tX (H : aB w0 w (dQ p G N op • F)) (hd : gJ w0 F .i32 d dl) (hi : gJ w0 F .i32 z il) (b2 : dl.length ≤ 35184372087808) (b3 : il.length ≤ 35184372087808) :
  fA prog 164 #[.pointer (some ⟨p, 0, none⟩), Vu a d z] w fun v w' => v = .int .i64 (oO G N a dl il) ∧ aB w0 w' (dQ p (Jt G N op a dl il) (Ju G N op a dl il) op • F) := by
 refine fU func164 ntmps164 ?_
 dsimp only [aY, Nat.reduceAdd]
 refine ay (ah (ji (iG (l := [_, _, _]) H rfl rfl) ?_))
 rintro _ w1 ⟨b1, rfl, H1⟩
 refine aU rfl (aA (aj (ay (ay (ah (aO rfl (bZ rfl func181 (iI H1.f2) ?_)))))))
 rintro _ _ ⟨rfl, rfl⟩
 refine aA (aj (oK (aP (aj (ay (ay (ah (bg 1 underlying101 rfl sizeOf22 rfl (dS underlying22 rfl (H1).get.2 rfl (aW (gY (hd _ (H1.right.right)) underlying22 rfl) (bg 2 underlying101 rfl sizeOf22 rfl (dS underlying22 rfl (H1).get.2 rfl (aW (gY (hi _ (H1.right.right)) underlying22 rfl) (aW (fP rfl rfl (by omega)) (aW (eX rfl rfl) (gB rfl (fun h1 => ?_) (fun h1 => ?_)))))))))))))))))
 ·(try simp only [aH] at h1)
  refine bD (bD (bD (fQ rfl rfl (aA (aj (wB (ay (ah (aU rfl (aA (aj (aJ (aK (aI (.inl rfl) results164 rfl ?_))))))))))))))
  have e : oO G N a dl il = 1 := by unfold oO; rw [if_pos (by omega)]
  rw [Cc (by rw [e]; decide), Ce (by rw [e]; decide), e]
  exact ⟨rfl, H1.right⟩
 ·(try simp only [aH] at h1)
  refine bf (bg 0 underlying101 rfl sizeOf3 rfl (bf (dS underlying3 rfl (H1).get.2 rfl (bf (aW (fE rfl rfl) (fG rfl rfl (aA (aj (aN rfl (fun h2 => ?_) (fun h2 => ?_))))))))))
  ·(try simp only [aH] at h2)
   refine ay (ah (aU rfl (aA (aj (aJ (aK (aI (.inl rfl) results164 rfl ?_)))))))
   have e : oO G N a dl il = 1 := by unfold oO; rw [if_pos (by omega)]
   rw [Cc (by rw [e]; decide), Ce (by rw [e]; decide), e]
   exact ⟨rfl, H1.right⟩
  ·(try simp only [aH] at h2)
   refine aP (aj (ay (ay ?_)))
   obtain ⟨vk, sF, iW, iO, iy, oN, mM, BX, BZ, FN, kK⟩ := (H1.f2).sD
   refine ah (aO rfl (bP rfl (bg 0 underlying180 rfl sizeOf178 rfl (bg 3 underlying178 rfl sizeOf3 rfl (dS underlying3 rfl (kK).get.2 rfl (aW (jH rfl rfl) (aA (aj (aN rfl (fun h3 => ?_) (fun h3 => ?_))))))))))
   ·(try simp only [aH] at h3)
    refine ay (ah (aU rfl (aA (aj (aJ (aK (aI (.inl rfl) results164 rfl ?_)))))))
    have e : oO G N a dl il = 3 := by unfold oO; rw [if_neg (by omega), if_pos (by omega)]
    have Ho5 := kK.f5.f5.f5.f5.f5
    have Hc6 := aB.jg iy oN mM rfl Ho5
    rw [Cc (by rw [e]; decide), Ce (by rw [e]; decide), e]
    exact ⟨rfl, Hc6.f2.right⟩
   ·(try simp only [aH] at h3)
    refine aP (aj (ay (ah (aO rfl (bP rfl (bg 0 underlying180 rfl sizeOf178 rfl (bg 3 underlying178 rfl sizeOf3 rfl (dS underlying3 rfl (kK).get.2 rfl (aW (fP rfl rfl (by omega)) (bP rfl (bg 0 underlying180 rfl sizeOf178 rfl (bg 3 underlying178 rfl sizeOf3 rfl (aG (aQ 3 (l' := [_, _, _, _, _]) kK sizeOf3 rfl rfl (by first | rfl | assumption) rfl rfl) ?_)))))))))))))
    rintro _ w7 H7
    refine aA (aj (ay (ay (ah (aO rfl (bP rfl (bg 0 underlying180 rfl sizeOf178 rfl (bg 2 underlying178 rfl sizeOf3 rfl (dS underlying3 rfl (H7).get.2 rfl (aW (dn rfl rfl) (aA (aj (aN rfl (fun h4 => ?_) (fun h4 => ?_))))))))))))))
    ·(try simp only [aH] at h4)
     have Vy := H7.drew
     have zQ := aB.kp (Vy.f6.f6.f6.f6.f6.f6)
     refine yQ [5, 6] zQ rfl (iE 0 rfl zQ rfl (iE 1 rfl zQ rfl (jF 2 rfl zQ rfl (gG 3 rfl zQ 0 underlying180 rfl sizeOf178 rfl (gG 4 rfl zQ 1 underlying178 rfl sizeOf35 rfl (je 5 rfl zQ (fun W hW => jE underlying35 rfl ((Kp.h hW)).get.2 rfl) (je 6 rfl zQ (fun W hW => bW underlying101 rfl sizeOf101 rfl rfl ((Kp.h hW).f6).get.2) (jQ 7 rfl (wK rfl func220 (oZ Vy (fun W HW => hd _ (HW.right.right.right.right.right.right)) (fun W HW => hi _ (HW.right.right.right.right.right.right)) (by omega) (by omega))) ?_))))))))
     rintro _ w8 ⟨d8, s8, rfl, H8⟩
     have MN := aB.kp (H8.f8.f8.f8.f8.f8.f8.f8.f8)
     refine dP MN (fun W hW => (Kp.h hW).right.right.f6.f6.f6.f6.f6.f6) ?_
     refine jQ 8 rfl (pz H8 underlying35 sizeOf101 zeroValue101 rfl rfl rfl (by decide) (by decide)) ?_
     rintro l9 w9 H9
     have Jv := aB.kp (H9.f9.f9.f9.f9.f9.f9.f9.f9.f9)
     refine dP Jv (fun W hW => (Kp.h hW).right.f8.f8.f8.f8.f8.f8.f8.f8) ?_
     refine jQ 9 rfl (gX H9.f7 underlying35 (show (prog.info? 101).map (fun i => (i.zero, i.size, i.bytes)) = some (some (.agg #[.int .i64 0, .slice none 0 0, .slice none 0 0]), 3, 56) by kernel_rfl) rfl rfl rfl ((H9).aT) (aC (by first | rfl | assumption) (aC (by first | rfl | exact Rd.one ((H9.f2).aT)) (aC (by first | rfl | exact Rd.one ((H9.f3).aT)) bU))) (by omega) (by omega)) ?_
     rintro l10 w10 mJ
     have Jw := mJ.f2.right
     have Ey := aB.kp (Jw.f8.f8.f8.f8.f8.f8.f8.f8)
     refine fF Ey (by kernel_rfl) ?_
     refine jF 10 rfl Ey rfl (gG 11 rfl Ey 0 underlying180 rfl sizeOf178 rfl (gG 12 rfl Ey 1 underlying178 rfl sizeOf35 rfl ?_))
     refine fH 13 rfl (by kernel_rfl) (aQ 1 (l' := [_, _, _, _, _]) Jw.f4 sizeOf35 rfl rfl (by first | rfl | exact Rd.one ((Jw).aT)) rfl rfl) ?_
     rintro _ w12 wE
     have yC := aB.kp (wE.f8.f8.f8.f8.f8.f8.f8.f8)
     refine fF yC (by kernel_rfl) ?_
     have hadd : 0 < op := by omega
     refine pU (aj (ay (ah (aU rfl (aA (aj (aJ (aI (.inl rfl) results164 rfl ?_))))))))
     have e : oO G N a dl il = 0 := by unfold oO; rw [if_neg (by omega), if_neg (by omega)]
     rw [Au e hadd, Aw e hadd, e]
     have X := (wE.f8.right.f6.f6.f3.f7.f5.f7.f7).jv.swap.jv.swap
     have X2 := aB.rZ X.f3
     refine ⟨rfl, aB.oD (gv := vk) (nv := l10) (gs := iW) (now := iO ++ [⟨a, d8, dl, s8, il⟩]) (ed := (dR G N : Nat) + 1) ⟨iy.1, by rw [FQ]; omega, iy.2.2.1, iy.2.2.2.1, iy.2.2.2.2.1, QC iy.2.2.2.2.2 ⟨b2, b3⟩⟩ oN (by rw [List.map_append, mM]; rfl) (by rw [FQ]; rfl) (X2.of_eq (by unfold yA; ac_rfl))⟩
    ·(try simp only [aH] at h4)
     have Oz := H7.drew
     have qO := aB.kp (Oz.f6.f6.f6.f6.f6.f6)
     refine yQ [5, 6] qO rfl (iE 0 rfl qO rfl (iE 1 rfl qO rfl (jF 2 rfl qO rfl (gG 3 rfl qO 0 underlying180 rfl sizeOf178 rfl (gG 4 rfl qO 0 underlying178 rfl sizeOf176 rfl (je 5 rfl qO (fun W hW => jE underlying176 rfl ((Kp.h hW)).get.2 rfl) (je 6 rfl qO (fun W hW => bW underlying101 rfl sizeOf101 rfl rfl ((Kp.h hW).f6).get.2) (jQ 7 rfl (wK rfl func220 (oZ Oz (fun W HW => hd _ (HW.right.right.right.right.right.right)) (fun W HW => hi _ (HW.right.right.right.right.right.right)) (by omega) (by omega))) ?_))))))))
     rintro _ ND ⟨d13, s13, rfl, vY⟩
     have wO := aB.kp (vY.f8.f8.f8.f8.f8.f8.f8.f8)
     refine dP wO (fun W hW => (Kp.h hW).right.right.f6.f6.f6.f6.f6.f6) ?_
     refine jQ 8 rfl (pz vY underlying35 sizeOf101 zeroValue101 rfl rfl rfl (by decide) (by decide)) ?_
     rintro ZQ Me yc
     have OA := aB.kp (yc.f9.f9.f9.f9.f9.f9.f9.f9.f9)
     refine dP OA (fun W hW => (Kp.h hW).right.f8.f8.f8.f8.f8.f8.f8.f8) ?_
     refine jQ 9 rfl (nK (vs := [_]) yc underlying176 sizeOf35 zeroValue35 rfl rfl rfl (by decide) (aC (by first | rfl | exact Rd.one ((yc).aT)) bU)) ?_
     rintro l15 Oe xO
     have wP := aB.kp (xO.f10.f10.f10.f10.f10.f10.f10.f10.f10.f10)
     refine dP wP (fun W hW => (Kp.h hW).right.f9.f9.f9.f9.f9.f9.f9.f9.f9) ?_
     refine jQ 10 rfl (gX xO.f6 underlying176 (show (prog.info? 35).map (fun i => (i.zero, i.size, i.bytes)) = some (some (.slice none 0 0), 1, 24) by kernel_rfl) rfl rfl rfl ((xO).aT) (aC (by first | rfl | exact Rd.one ((xO.f2).aT)) bU) (by omega) (by omega)) ?_
     rintro ZR w16 tJ
     have Jy := tJ.f2.right
     have KL := aB.kp (Jy.f9.f9.f9.f9.f9.f9.f9.f9.f9)
     refine fF KL (by kernel_rfl) ?_
     refine jF 11 rfl KL rfl (gG 12 rfl KL 0 underlying180 rfl sizeOf178 rfl (gG 13 rfl KL 0 underlying178 rfl sizeOf176 rfl ?_))
     refine fH 14 rfl (by kernel_rfl) (aQ 0 (l' := [_, _, _, _, _]) Jy.f5 sizeOf176 rfl rfl (by first | rfl | exact Rd.one ((Jy).aT)) rfl rfl) ?_
     rintro _ Rx Ei
     have Ie := aB.kp (Ei.f9.f9.f9.f9.f9.f9.f9.f9.f9)
     refine fF Ie (by kernel_rfl) ?_
     have hadd : ¬ 0 < op := by omega
     refine pU (aj (ay (ah (aU rfl (aA (aj (aJ (aI (.inl rfl) results164 rfl ?_))))))))
     have e : oO G N a dl il = 0 := by unfold oO; rw [if_neg (by omega), if_neg (by omega)]
     rw [Ox e hadd, Oy e hadd, e]
     have X := (Ei.f9.right.f8.f8.f3.f8.f5.f6.f8.f8).jv.swap.jv.swap
     have X2 := aB.rZ (es := []) X.BR.f3.f3.f4
     have X4 := aB.su X2.pW.swap
     refine ⟨rfl, aB.oD (gv := ZR) (nv := sF) (gs := iW ++ [(ZQ, [⟨a, d13, dl, s13, il⟩])]) (now := iO) (ed := (dR G N : Nat) + 1) ⟨KJ iy.1 (List.cons_ne_nil _ _), by rw [Ic]; omega, iy.2.2.1, iy.2.2.2.1, Ib iy.2.2.2.2.1 (by intro e he; rw [List.mem_singleton.1 he]; exact ⟨b2, b3⟩), iy.2.2.2.2.2⟩ (by rw [List.map_append, oN]; rfl) mM (by rw [Ic]; rfl) (X4.of_eq (by unfold DX; ac_rfl))⟩
end
end Go.Proofs.YtgndbccogcofjaaGreatDoor
end
section
namespace Go.Proofs.YtgndbccogcofjaaGreatDoor
open Go.RowKit
def FT (P : Program) (l : Nat) (vs : List Value) (w : World) (T : Value → World → Prop) : Prop :=
  ∃ f tmps c d, (Instr.yield l vs.toArray).run P w = .ok (.round l f tmps c d) w ∧ RoundIn Fence.wide 0 P l f tmps c d w fun e w' => ∃ v, e = .returned v ∧ T v w'
theorem FT.mono {P : Program} {l : Nat} {vs : List Value} {w : World} {T T' : Value → World → Prop} (h : FT P l vs w T) (k : ∀ v w', T v w' → T' v w') : FT P l vs w T' :=
  let ⟨f, tmps, c, d, h1, h2⟩ := h; ⟨f, tmps, c, d, h1, RoundIn.mono h2 fun _ _ ⟨v, e, t⟩ => ⟨v, e, k _ _ t⟩⟩
theorem FT.bool {P : Program} {l : Nat} {vs : List Value} {w : World} {A B : World → Prop} (h : FT P l vs w fun v W' => (v = .bool true ∧ A W') ∨ (v = .bool false ∧ B W')) : FT P l vs w fun v W' => ∃ t, v = .bool t ∧ (t = true → A W') ∧ (t = false → B W') :=
  h.mono fun v W' hv => by
    rcases hv with ⟨rfl, h⟩ | ⟨rfl, h⟩
    · exact ⟨true, rfl, fun _ => h, fun e => by cases e⟩
    · exact ⟨false, rfl, (fun e => by cases e), fun _ => h⟩
theorem FU {P : Program} {L : List (Nat × Value)} {w : World} {ty : TypeId} {x : Operand} {args : List Operand} {ts : Array TypeId} {l : Nat} {vs : List Value} {T : Value → World → Prop} (hx : ev L x = some (.func (.yield l) #[] #[])) (ha : xK L args = some vs) (h : FT P l vs w T) :
    pJ P L (.call ⟨.value x, args.toArray, ts⟩) ty w T := by
  obtain ⟨f, tmps, c, d, hy, hr⟩ := h
  refine P8 (fun ρ hρ dd pos kS g => ?_) hr
  have hg := hρ _ _ hx
  simp [execOp, resolve, invoke, Us hρ _ _ ha, hg, Deferred.ofValue, hy]
def Iter (P : Program) (w0 : World) (fv : Value) (R : HP) (n : Nat) (E : Nat → List Value → HP → Prop) : Prop :=
  ∀ (l : Nat) (J : Nat → HP) (X : HP) (w : World),
    (∀ k, k < n → ∀ vs A, E k vs A → ∀ G W, aB w0 W (A • J k • G) → FT P l vs W fun v W' => (v = .bool true ∧ aB w0 W' (J (k + 1) • G)) ∨ (v = .bool false ∧ aB w0 W' (X • G))) →
    aB w0 w (J 0 • R) → GR P fv [.func (.yield l) #[] #[]] w fun _ W' => aB w0 W' (J n • R) ∨ aB w0 W' (X • R)
def Ig (w0 : World) (I : HP) (Xr : HP) (Xe : Nat → HP) (G : HP) : Exit → Act → World → Prop
  | .normal, _, W => aB w0 W (I • G)
  | .ret, _, W => aB w0 W (Xr • G)
  | .exit id, _, W => aB w0 W (Xe id • G)
  | _, _, _ => False
def KN (P : Program) (N : Sh) (w0 : World) (body : Code) (I : HP) (Xr : HP) (Xe : Nat → HP) (G : HP) (a : Act) (W : World) : Prop :=
  ∃ (L : List (Nat × Value)) (B : HP), Fits N L a ∧ aB w0 W (B • G) ∧ ∀ G' W', aB w0 W' (B • G') → WC P N body (Ig w0 I Xr Xe G') L W'
def OB : Exit → Act → World → Prop := fun _ _ _ => False
theorem Jz {P : Program} {N : Sh} {w0 w : World} {body : Code} {I Xr : HP} {Xe : Nat → HP} {G B : HP} {L : List (Nat × Value)} (H : aB w0 w (B • G)) (h : ∀ G' W', aB w0 W' (B • G') → WC P N body (Ig w0 I Xr Xe G') L W') :
    WQ N (Exit.then (KN P N w0 body I Xr Xe G) OB) .normal L w := fun _ a ha => ⟨L, B, ha, H, h⟩
theorem Ci {N : Sh} {w0 w : World} {I Xr : HP} {Xe : Nat → HP} {G : HP} {L : List (Nat × Value)} (H : aB w0 w (I • G)) : WQ N (Ig w0 I Xr Xe G) .normal L w := fun _ _ _ => H
theorem OC {N : Sh} {w0 w : World} {I Xr : HP} {Xe : Nat → HP} {G : HP} {id : Nat} {L : List (Nat × Value)} (H : aB w0 w (Xe id • G)) : WQ N (Ig w0 I Xr Xe G) (.exit id) L w := fun _ _ _ => H
theorem OD {w0 : World} {I Xr : HP} {Xe : Nat → HP} {G : HP} : NP (Ig w0 I Xr Xe G) := fun _ _ _ h => h
def JA : List Nat → List Value → List (Nat × Value) → List (Nat × Value)
  | [], _, L => L
  | _ :: _, [], L => L
  | p :: ps, v :: vs, L => JA ps vs ((p, v) :: L)
theorem Ih {n l : Nat} : ∀ (ps : List Nat) (vs : List Value) (L : List (Nat × Value)) (tmps : Array Value), (∀ p ∈ ps, p < n) → Fits ⟨n, [], some l⟩ L { tmps := tmps, defers := [] } →
    Fits ⟨n, [], some l⟩ (JA ps vs L) { tmps := (ps.zip vs).foldl (fun t (p : Nat × Value) => t.setIfInBounds p.1 p.2) tmps, defers := [] }
  | [], _, _, _, _, h => h
  | _ :: _, [], _, _, _, h => h
  | p :: ps, v :: vs, L, tmps, hp, h => Ih ps vs _ _ (fun q hq => hp q (by simp [hq])) (h.put (hp p (by simp)) v)
section
variable {P : Program} {N : Sh} {Q : Exit → Act → World → Prop} {L : List (Nat × Value)} {w0 w : World}
theorem tY {g : Operand} {ps : List Nat} {assign body : Code} {fv : Value} {R : HP} {n : Nat} {E : Nat → List Value → HP → Prop} (hg : ev L g = some fv) (hit : Iter P w0 fv R n E) (I : Nat → HP) (Xr : HP) (Xe : Nat → HP) (H : aB w0 w (I 0 • R))
    (hps : ps.all (· < N.n) = true)
    (hbody : ∀ l k, k < n → ∀ vs A, E k vs A → ∀ G W, aB w0 W (A • I k • G) → vs.length = ps.length ∧ WC P ⟨N.n, [], some l⟩ assign (Exit.then (KN P ⟨N.n, [], some l⟩ w0 body (I (k + 1)) Xr Xe G) OB) (JA ps vs L) W)
    (hdone : ∀ D W, aB w0 W (dB D (.deferred (some [])) • I n • R) → WQ ⟨N.n, D :: N.ds, none⟩ Q .normal L W)
    (hret : ∀ D W, aB w0 W (dB D (.deferred (some [])) • Xr • R) → WQ ⟨N.n, D :: N.ds, none⟩ Q .ret L W)
    (Vz : ∀ id D W, aB w0 W (dB D (.deferred (some [])) • Xe id • R) → WQ ⟨N.n, D :: N.ds, none⟩ Q (.exit id) L W)
    (hro : N.ro = none := by rfl) : WC P N (.rangeFunc g ps.toArray assign body) Q L w := fun np a ha => by
  rw [hro]
  refine wpIn_rangeFunc fun fn _ => ?_
  let mO : LoopState → Option Code → Loop := fun s j => { state := s, pending := j, fn, tmps := a.tmps, params := ps.toArray, assign, body, defers := w.heap.size }
  have XP := run_enterLoop_outer (P := P) (w := w) fn a.tmps ps.toArray assign body
  have H1 : aB w0 ((w.alloc (.deferred (some []))).alloc (.loop (mO .ready none))) (dB (w.heap.size + 1) (.loop (mO .ready none)) • dB w.heap.size (.deferred (some [])) • I 0 • R) := by
    have := (H.alloc (.deferred (some []))).alloc (.loop (mO .ready none))
    rw [World.size_alloc] at this
    exact this
  let Lk : LoopState → Option Code → HP := fun s j => dB (w.heap.size + 1) (.loop (mO s j)) • dB w.heap.size (.deferred (some []))
  have TA : ∀ k, k < n → ∀ vs A, E k vs A → ∀ G W, aB w0 W (A • (Lk .ready none • I k) • G) → FT P (w.heap.size + 1) vs W fun v W' => (v = .bool true ∧ aB w0 W' ((Lk .ready none • I (k + 1)) • G)) ∨
      (v = .bool false ∧ aB w0 W' (qW (fun c : Code => Lk .done (some c) • (match c with | .ret => Xr | .exit id => Xe id | _ => fact False)) • G)) := by
    intro k hk vs A hE G W HW
    have e1 : (A • (Lk .ready none • I k) • G) = (dB (w.heap.size + 1) (.loop (mO .ready none)) • A • I k • dB w.heap.size (.deferred (some [])) • G) := by
      show (A • ((dB (w.heap.size + 1) (.loop (mO .ready none)) • dB w.heap.size (.deferred (some []))) • I k) • G) = _
      ac_rfl
    have HW1 := HW.of_eq e1
    have hl := HW1.get.2
    have hlen := (hbody (w.heap.size + 1) k hk vs A hE _ W (HW1.of_eq (show _ = (A • I k • dB (w.heap.size + 1) (.loop (mO .ready none)) • dB w.heap.size (.deferred (some [])) • G) by ac_rfl))).1
    refine ⟨fn, _, assign, body, run_yield hl (by rw [List.size_toArray, hlen]; exact List.size_toArray.symm), ?_⟩
    have hfit : Fits ⟨N.n, [], some (w.heap.size + 1)⟩ (JA ps vs L) { tmps := (ps.toArray.zip vs.toArray).foldl (fun tmps (t, a) => tmps.setIfInBounds t a) a.tmps, defers := [] } := by
      have := Ih (n := N.n) (l := w.heap.size + 1) ps vs L a.tmps (fun p hp => by simpa using List.all_eq_true.1 hps p hp) ⟨ha.size, rfl, ha.at_⟩
      simpa using this
    refine roundIn_of_wpIn trivial ?_
    have HW2 : aB w0 W (A • I k • dB (w.heap.size + 1) (.loop (mO .ready none)) • dB w.heap.size (.deferred (some [])) • G) := HW1.of_eq (by ac_rfl)
    have hb := (hbody (w.heap.size + 1) k hk vs A hE _ W HW2).2 (fun c a w h => h) _ hfit
    refine wpIn_mono hb ?_
    rintro e a1 W1 hq
    cases e with
    | exit id => exact hq.elim
    | goto l => exact hq.elim
    | ret => exact hq.elim
    | panic c => exact hq.elim
    | outgrown => exact hq.elim
    | normal =>
      obtain ⟨L1, B, hf1, HB, hgo⟩ := hq
      have HB1 : aB w0 W1 (dB (w.heap.size + 1) (.loop (mO .ready none)) • B • dB w.heap.size (.deferred (some [])) • G) := HB.of_eq (by ac_rfl)
      have hl1 := HB1.get.2
      refine ⟨_, run_beginRound hl1 rfl, ?_⟩
      have HB2 : aB w0 (W1.putObj (w.heap.size + 1) (.loop (mO .busy none))) (dB (w.heap.size + 1) (.loop (mO .busy none)) • B • dB w.heap.size (.deferred (some [])) • G) := HB1.turn rfl rfl rfl (by simp) (World.putObj_heap_same HB1.lt) fun k hk _ => World.putObj_heap_other hk
      have hbd := hgo (dB (w.heap.size + 1) (.loop (mO .busy none)) • dB w.heap.size (.deferred (some [])) • G) _ (HB2.of_eq (by ac_rfl)) OD a1 hf1
      refine wpIn_mono hbd ?_
      have fin : ∀ (j : Option Code) (W3 : World) (A3 : HP), aB w0 W3 (A3 • dB (w.heap.size + 1) (.loop (mO .busy none)) • dB w.heap.size (.deferred (some [])) • G) →
          (Instr.endRound (w.heap.size + 1) j).run P W3 = .ok (.bool j.isNone) (W3.putObj (w.heap.size + 1) (.loop (mO (if j.isNone then .ready else .done) j))) ∧
          aB w0 (W3.putObj (w.heap.size + 1) (.loop (mO (if j.isNone then .ready else .done) j))) ((Lk (if j.isNone then .ready else .done) j • A3) • G) := by
        intro j W3 A3 H3
        have H4 := H3.swap
        refine ⟨run_endRound j H4.get.2, ?_⟩
        have H5 : aB w0 (W3.putObj (w.heap.size + 1) (.loop (mO (if j.isNone then .ready else .done) j))) (dB (w.heap.size + 1) (.loop (mO (if j.isNone then .ready else .done) j)) • A3 • dB w.heap.size (.deferred (some [])) • G) := H4.turn rfl rfl rfl (by simp) (World.putObj_heap_same H4.lt) fun k hk _ => World.putObj_heap_other hk
        refine H5.of_eq ?_
        show _ = (((dB (w.heap.size + 1) (.loop (mO (if j.isNone then .ready else .done) j)) • dB w.heap.size (.deferred (some []))) • A3) • G)
        ac_rfl
      rintro e a3 W3 hp
      cases e with
      | normal => obtain ⟨h1, h2⟩ := fin none W3 _ hp; exact ⟨_, _, h1, _, rfl, .inl ⟨rfl, h2⟩⟩
      | ret => obtain ⟨h1, h2⟩ := fin (some .ret) W3 _ hp; exact ⟨_, _, h1, _, rfl, .inr ⟨rfl, aB.gQ .ret h2⟩⟩
      | exit id => obtain ⟨h1, h2⟩ := fin (some (.exit id)) W3 _ hp; exact ⟨_, _, h1, _, rfl, .inr ⟨rfl, aB.gQ (.exit id) h2⟩⟩
      | goto l => exact hp.elim
      | panic c => exact hp.elim
      | outgrown => exact hp.elim
  have hcall := hit (w.heap.size + 1) (fun k => Lk .ready none • I k) _ _ TA (H1.of_eq (by
    show _ = (((dB (w.heap.size + 1) (.loop (mO .ready none)) • dB w.heap.size (.deferred (some []))) • I 0) • R)
    ac_rfl))
  obtain ⟨f, first, cap, fn', c, rfl, hf, hn, hb, VA⟩ := hcall
  refine ⟨w.heap.size + 1, _, _, { target := .fn (.func f) cap.toArray, args := (first ++ [Value.func (.yield (w.heap.size + 1)) #[] #[]]).toArray }, (w.alloc (.deferred (some []))).alloc (.loop (mO .ready none)), f, _, (w.alloc (.deferred (some []))).alloc (.loop (mO .ready none)), XP, ?_, fun _ _ => trivial, ?_, (fun h => by cases h), NJ.2 (Calls.mono VA ?_)⟩
  · have he := ha.ev hg
    have he2 : a.eval (.const (.func (.yield (w.heap.size + 1)) #[] #[])) = .func (.yield (w.heap.size + 1)) #[] #[] := rfl
    simp [resolve, rangeCall, he, he2, Deferred.ofValue, mO]
  · simp [invoke, callFunc, hf, hb]
    simpa using hn
  · rintro e W2 ⟨v, rfl, hv⟩
    have fin : ∀ (s : LoopState) (j : Option Code) (A : HP), s ≠ .busy → aB w0 W2 ((Lk s j • A) • R) → (Instr.endLoop (w.heap.size + 1)).run P W2 = .ok j (W2.putObj (w.heap.size + 1) (.loop (mO .exhausted j))) ∧
        aB w0 (W2.putObj (w.heap.size + 1) (.loop (mO .exhausted j))) (dB w.heap.size (.deferred (some [])) • A • R) := by
      intro s j A hs H3
      have H4 : aB w0 W2 (dB (w.heap.size + 1) (.loop (mO s j)) • dB w.heap.size (.deferred (some [])) • A • R) := H3.of_eq (by
        show (((dB (w.heap.size + 1) (.loop (mO s j)) • dB w.heap.size (.deferred (some []))) • A) • R) = _
        ac_rfl)
      refine ⟨run_endLoop H4.get.2 hs, ?_⟩
      have H5 : aB w0 (W2.putObj (w.heap.size + 1) (.loop (mO .exhausted j))) (dB (w.heap.size + 1) (.loop (mO .exhausted j)) • dB w.heap.size (.deferred (some [])) • A • R) := H4.turn rfl rfl rfl (by simp) (World.putObj_heap_same H4.lt) fun k hk _ => World.putObj_heap_other hk
      exact H5.right
    have hfit : Fits ⟨N.n, w.heap.size :: N.ds, none⟩ L { a with defers := [{ target := .collected w.heap.size, args := #[] }] ++ a.defers } := ⟨ha.size, by simp [ha.defers, NI], ha.at_⟩
    rcases hv with hv | hv
    · obtain ⟨h1, h2⟩ := fin _ _ _ (by decide) hv
      exact ⟨none, _, h1, hdone _ _ h2 np _ hfit⟩
    · obtain ⟨c, hv⟩ := hv.lg
      obtain ⟨h1, h2⟩ := fin _ _ _ (by decide) hv
      cases c with
      | ret => exact ⟨some .ret, _, h1, wpIn_ret (hret _ _ h2 np _ hfit)⟩
      | exit id => exact ⟨some (.exit id), _, h1, wpIn_exit (Vz id _ _ h2 np _ hfit)⟩
      | _ => exact absurd h2.swap.fact.1 id
end
end Go.Proofs.YtgndbccogcofjaaGreatDoor
end
section
namespace Go.Proofs.YtgndbccogcofjaaGreatDoor
open Go.RowKit
open _root_.Go.Proofs.Tryz
def iP (G : List (List dU)) (N : List dU) : List (List dU) := if N = [] then G else G ++ [N]
theorem JB {G : List (List dU)} {N : List dU} (h : N = []) : iP G N = G := by unfold iP; rw [if_pos h]
theorem lJ {G : List (List dU)} {N : List dU} (h : N ≠ []) : iP G N = G ++ [N] := by unfold iP; rw [if_neg h]
theorem Cj {G : List (List dU)} {N : List dU} : dR (iP G N) [] = dR G N := by
  unfold iP; split
  · rename_i h; rw [h]
  · simp [dR]
section
variable {w0 w : World} {F : HP} {p : Nat} {G : List (List dU)} {N : List dU} {op : Int} {gv nv v : Value} {gs : List (Value × List cO)} {now es : List cO} {a : Int} {d z : Value} {dl il : List Int}
theorem vw (H : aB w0 w (dQ p G N op • F)) : fA prog 218 #[.pointer (some ⟨p, 0, none⟩)] w fun _ w' => aB w0 w' (dQ p (iP G N) [] 0 • F) := by
 refine fU func218 ntmps218 ?_
 dsimp only [aY, Nat.reduceAdd]
 refine ay (ay ?_)
 obtain ⟨vk, sF, iW, iO, iy, oN, mM, BX, BZ, FN, kK⟩ := (H).sD
 refine ah (aO rfl (bP rfl (bg 0 underlying180 rfl sizeOf178 rfl (bg 1 underlying178 rfl sizeOf35 rfl (dS underlying35 rfl (kK).get.2 rfl (aW (iH ((kK.f4).aT) underlying35 rfl) (aW (dn rfl rfl) (aA (aj (aN rfl (fun h1 => ?_) (fun h1 => ?_)))))))))))
 ·(try simp only [aH] at h1)
  have VB : 0 < iO.length := by omega
  have TB := kK.drew
  have uH := aB.kp (TB.f5.f5.f5.f5.f5)
  refine yQ [5, 10] uH rfl (iE 0 rfl uH rfl (iE 1 rfl uH rfl (jF 2 rfl uH rfl (gG 3 rfl uH 0 underlying180 rfl sizeOf178 rfl (gG 4 rfl uH 0 underlying178 rfl sizeOf176 rfl (je 5 rfl uH (fun W hW => jE underlying176 rfl ((Kp.h hW)).get.2 rfl) (iE 6 rfl uH rfl (jF 7 rfl uH rfl (gG 8 rfl uH 0 underlying180 rfl sizeOf178 rfl (gG 9 rfl uH 1 underlying178 rfl sizeOf35 rfl (je 10 rfl uH (fun W hW => jE underlying35 rfl ((Kp.h hW)).get.2 rfl) (jQ 11 rfl (nK (vs := [_]) TB underlying176 sizeOf35 zeroValue35 rfl rfl rfl (by decide) (aC (by first | rfl | exact Rd.one ((TB.f4).aT)) bU)) ?_))))))))))))
  rintro l2 w2 H2
  have TD := aB.kp (H2.f6.f6.f6.f6.f6.f6)
  refine dP TD (fun W hW => (Kp.h hW).right.f5.f5.f5.f5.f5) ?_
  refine jQ 12 rfl (gX H2.f3 underlying176 (show (prog.info? 35).map (fun i => (i.zero, i.size, i.bytes)) = some (some (.slice none 0 0), 1, 24) by kernel_rfl) rfl rfl rfl ((H2).aT) (aC (by first | rfl | exact Rd.one ((H2.f5).aT)) bU) (by omega) (by omega)) ?_
  rintro l3 w3 H3
  have XQ := H3.f2.right
  have wG := aB.kp (XQ.f5.f5.f5.f5.f5)
  refine fF wG (by kernel_rfl) ?_
  refine jF 13 rfl wG rfl (gG 14 rfl wG 0 underlying180 rfl sizeOf178 rfl (gG 15 rfl wG 0 underlying178 rfl sizeOf176 rfl ?_))
  refine fH 16 rfl (by kernel_rfl) (aQ 0 (l' := [_, _, _, _, _]) XQ.f2 sizeOf176 rfl rfl (by first | rfl | exact Rd.one ((XQ).aT)) rfl rfl) ?_
  rintro _ w5 H5
  have JC := aB.kp (H5.f5.f5.f5.f5.f5)
  refine fF JC (by kernel_rfl) ?_
  refine pU (aj (ah (aO rfl (aO rfl (bP rfl (bg 0 underlying180 rfl sizeOf178 rfl (bg 1 underlying178 rfl sizeOf35 rfl (aG (aQ 1 (l' := [_, _, _, _, _]) H5 sizeOf35 rfl rfl (by first | rfl | assumption) rfl rfl) ?_))))))))
  rintro _ w6 H6
  refine bP rfl (bg 0 underlying180 rfl sizeOf178 rfl (bg 2 underlying178 rfl sizeOf3 rfl (aG (aQ 2 (l' := [_, _, _, _, _]) H6 sizeOf3 rfl rfl (by first | rfl | assumption) rfl rfl) ?_)))
  rintro _ w7 H7
  refine aA (fM (.inr rfl) results218 ?_)
  have hN : N ≠ [] := by rintro rfl; exact absurd BZ (by simp only [List.length_nil]; omega)
  rw [lJ hN]
  have X := aB.pW (v := sF) (es := iO) (H7.f3.f3.f5.f5).deep
  have X4 := aB.su X.swap
  refine aB.oD (gv := l3) (nv := .slice none 0 0) (gs := iW ++ [(sF, iO)]) (now := []) (ed := (dR G N : Nat)) ⟨KJ iy.1 hN, by rw [← lJ hN, Cj]; exact iy.2.1, by decide, by decide, Ib iy.2.2.2.2.1 iy.2.2.2.2.2, by simp⟩ (by rw [List.map_append, oN, ← mM]; rfl) rfl (by rw [← lJ hN, Cj]) ((X4.oh none).of_eq (by ac_rfl))
 ·(try simp only [aH] at h1)
  have VB : iO.length = 0 := by omega
  refine aP (aj (ah (aO rfl (aO rfl (bP rfl (bg 0 underlying180 rfl sizeOf178 rfl (bg 1 underlying178 rfl sizeOf35 rfl (aG (aQ 1 (l' := [_, _, _, _, _]) kK sizeOf35 rfl rfl (by first | rfl | assumption) rfl rfl) ?_))))))))
  rintro _ w8 H8
  refine bP rfl (bg 0 underlying180 rfl sizeOf178 rfl (bg 2 underlying178 rfl sizeOf3 rfl (aG (aQ 2 (l' := [_, _, _, _, _]) H8 sizeOf3 rfl rfl (by first | rfl | assumption) rfl rfl) ?_)))
  rintro _ w9 H9
  refine aA (fM (.inr rfl) results218 ?_)
  have hN : N = [] := by rw [← mM, List.eq_nil_of_length_eq_zero VB]; rfl
  subst hN
  rw [JB rfl]
  refine aB.oD (gv := vk) (nv := .slice none 0 0) (gs := iW) (now := []) (ed := (dR G [] : Nat)) ⟨iy.1, iy.2.1, by decide, by decide, iy.2.2.2.2⟩ oN rfl rfl (((H9.f4.right.f4.right.f3.f3).oh none).of_eq (by unfold yA; ac_rfl))
theorem aB.FV (H : aB w0 w (yS v es • F)) : aB w0 w (yS v es • yS v es • F) := H.AP
theorem MO (b : Nat) : Iter prog w0 (.func (.func 253) #[] #[.pointer (some ⟨b, 0, none⟩)]) (dB b (.cells #[v] 35 (0, 0)) • yS v es) es.length
  (fun k vs A => vs = [.int .i64 ((es.length - (k + 1) : Nat) : Int), .agg (es.getD (es.length - (k + 1)) default).enc.toArray] ∧ A = yS v es) := by
 intro l J X w hy H
 refine ⟨253, [], [.pointer (some ⟨b, 0, none⟩)], _, _, rfl, func253, rfl, rfl, ?_⟩
 have H1 : aB w0 w (dB b (.cells #[v] 35 (0, 0)) • yS v es • J 0) := H.of_eq (by ac_rfl)
 obtain ⟨a, c, hv, hc1, hc2, _⟩ := (H1.swap.xg).form
 subst hv
 simp only [List.nil_append, List.cons_append]
 refine fU func253 ntmps253 ?_
 dsimp only [aY, Nat.reduceAdd]
 refine ay (ah (dS underlying35 rfl (H1).get.2 rfl (aW (iH ((H1.f2).xg) underlying35 rfl) (aW (iq rfl rfl (by omega)) (aU rfl (aA (aj (bC ?_))))))))
 refine ig [(0, _), (1, _)] (fun (k : Nat) => [(3, .int .i64 ((k : Int) - 1))]) (fun (k : Nat) W => k ≤ es.length ∧ aB w0 W (dB b (.cells #[.slice a es.length c] 35 (0, 0)) • yS (.slice a es.length c) es • J (es.length - k))) (fun (k : Nat) => k) (es.length) (Sub.cons rfl (Sub.cons rfl (Sub.nil _))) (Sub.cons rfl (Sub.nil _)) ⟨by omega, by rw [Nat.sub_self]; exact H1⟩ ?_
 rintro k w1 ⟨hk, HL⟩
 dsimp only [List.cons_append, List.nil_append]
 refine ay (ay (ah (aO rfl (aW (jH rfl rfl) (aA (aj (aN rfl (fun h1 => ?_) (fun h1 => ?_))))))))
 ·(try simp only [aH] at h1)
  try (exfalso; first | contradiction | omega)
  all_goals
   refine aP (aj (ay (bC (ay ?_))))
   obtain ⟨m, rfl⟩ : ∃ m, k = m + 1 := ⟨k - 1, by omega⟩
   rw [show (((m + 1 : Nat) : Int) - 1) = (m : Int) from by omega]
   refine ah (aO rfl (aO rfl (dS underlying35 rfl (HL).get.2 rfl (aO rfl ?_))))
   obtain ⟨bv, ov, cv, ev⟩ := Rd.Bh ((HL.f2).xg) (by omega)
   cases ev
   refine aW (iZ underlying35 sizeOf101 rfl rfl (by omega)) (aW (jW (ys := [_, _, _]) ((HL.f2).xg) (by omega) underlying101 rfl sizeOf101 rfl (nO cO.yw (by omega) default) rfl) (ji (FU rfl rfl (hy (es.length - (m + 1)) (by omega) _ _ ⟨by rw [show es.length - (es.length - (m + 1) + 1) = m from by omega]; rfl, rfl⟩ (yS (.slice (some ⟨bv, ov, none⟩) es.length c) es • dB b (.cells #[.slice (some ⟨bv, ov, none⟩) es.length c] 35 (0, 0))) _ (HL.swap.FV.of_eq (by ac_rfl))).bool) ?_))
   rintro _ w2 ⟨t, rfl, ht1, ht2⟩
   refine aW (jS rfl) (aA (aj (aN rfl (fun h2 => ?_) (fun h2 => ?_))))
   ·(try simp only [aH] at h2)
    try (exfalso; first | contradiction | omega)
    all_goals
     have HX := ht2 (by simpa using h2)
     refine aJ (aV (aK (aK (aV (fM (.inl rfl) results253 ?_)))))
     exact .inr (HX.of_eq (by ac_rfl))
   ·(try simp only [aH] at h2)
    try (exfalso; first | contradiction | omega)
    all_goals
     have HN : aB w0 w2 (dB b (.cells #[.slice (some ⟨bv, ov, none⟩) es.length c] 35 (0, 0)) • yS (.slice (some ⟨bv, ov, none⟩) es.length c) es • J (es.length - m)) := by
      have h9 := ht1 (by simpa using h2)
      rw [show es.length - (m + 1) + 1 = es.length - m from by omega] at h9
      exact h9.of_eq (by ac_rfl)
     refine aP (aS (aj (ah (aO rfl (aW (iq rfl rfl (by omega)) (aU rfl (aA ?_)))))))
     refine fD (m) ?_ ?_ ?_ ?_
     ·exact (Sub.cons rfl (Sub.nil _))
     ·exact (Sub.cons rfl (Sub.cons rfl (Sub.nil _)))
     ·(try dsimp only)
      first | done | exact ⟨by omega, HN.f2.f2⟩
     ·(try dsimp only); omega
 ·(try simp only [aH] at h1)
  try (exfalso; first | contradiction | omega)
  all_goals
   refine eU (aX (aX (bV (fM (.inr rfl) results253 ?_))))
   obtain rfl : k = 0 := by omega
   rw [Nat.sub_zero] at HL
   exact .inl (HL.of_eq (by ac_rfl))
end
end Go.Proofs.YtgndbccogcofjaaGreatDoor
end
section
namespace Go.Proofs.YtgndbccogcofjaaGreatDoor
open Go.RowKit
open _root_.Go.Proofs.Tryz
def Cm (e : dU) : dU := (e.1, e.2.2, e.2.1)
def OE (c : Nat) (es : List cO) (k : Nat) : HP := qW fun (x : Value × List cO) => fact (x.2.map cO.says = ((es.map cO.says).reverse.take k).map Cm) • dB c (.cells #[x.1] 35 (0, 0)) • DX x.1 x.2
theorem OG {es : List cO} {k : Nat} (hk : k < es.length) : ((es.map cO.says).reverse.take (k + 1)).map Cm = ((es.map cO.says).reverse.take k).map Cm ++ [Cm (es.getD (es.length - (k + 1)) default).says] := by
  rw [List.take_succ_eq_append_getElem (by simpa using hk), List.map_append]
  congr 1
  simp only [List.map_cons, List.map_nil, List.getElem_reverse, List.getElem_map, List.length_map]
  rw [List.getD_eq_getElem?_getD, List.getElem?_eq_getElem (by omega)]
  have e : es.length - 1 - k = es.length - (k + 1) := by omega
  simp only [Option.getD_some, e]
section
variable {w0 w : World} {F : HP} {p : Nat} {G : List (List dU)} {N : List dU} {op : Int} {gv nv v : Value} {gs : List (Value × List cO)} {now es : List cO} {a : Int} {d z : Value} {dl il : List Int}
theorem aB.Ii {c k : Nat} (H : aB w0 w (OE c es k • F)) : ∃ u fs, fs.map cO.says = ((es.map cO.says).reverse.take k).map Cm ∧ fs.length ≤ es.length ∧ aB w0 w (dB c (.cells #[u] 35 (0, 0)) • Row 101 3 u fs.length (fs.flatMap cO.enc) • iR fs • F) := by
  obtain ⟨⟨u, fs⟩, H⟩ := H.lg
  obtain ⟨h, H⟩ := H.flat.fact
  refine ⟨u, fs, h, ?_, ?_⟩
  · have := congrArg List.length h
    simp at this
    omega
  · have := H.flat
    unfold DX at this
    exact this.of_eq (by ac_rfl)
theorem aB.OH {c k : Nat} {u : Value} {fs : List cO} (h : fs.map cO.says = ((es.map cO.says).reverse.take k).map Cm) (H : aB w0 w (dB c (.cells #[u] 35 (0, 0)) • DX u fs • F)) : aB w0 w (OE c es k • F) :=
  aB.gQ (u, fs) (aB.deep (aB.jq h H.deep))
theorem aB.TF (H : aB w0 w (yS v es • F)) {k : Nat} (hk : k < es.length) : aB w0 w (Bl .i32 (es.getD k default).d (es.getD k default).dl • Bl .i32 (es.getD k default).i (es.getD k default).il • yS v es • F) := by
  have h1 : aB w0 w (Bl .i32 (es.getD k default).d (es.getD k default).dl • yS v es • yS v es • F) := H.FV.FV.Dy (rP (fun I h => (h.2 k hk).1) _)
  have h2 : aB w0 w (Bl .i32 (es.getD k default).i (es.getD k default).il • Bl .i32 (es.getD k default).d (es.getD k default).dl • yS v es • F) := h1.swap.Dy (rP (fun I h => (h.2 k hk).2) _)
  exact h2.swap
theorem MP (H : aB w0 w F) (hv : v.oneCell' = true) : fA prog 240 #[v] w fun v' w' => ∃ b, v' = .func (.func 253) #[] #[.pointer (some ⟨b, 0, none⟩)] ∧ aB w0 w' (dB b (.cells #[v] 35 (0, 0)) • F) := by
 refine fU func240 ntmps240 ?_
 dsimp only [aY, Nat.reduceAdd]
 refine ay (ah (ji (iG (l := [_]) H rfl (by first | rfl | exact yY (by first | rfl | assumption))) ?_))
 rintro _ w1 ⟨b1, rfl, H1⟩
 refine aU rfl (aA (aj (ay (ah (aW (tq rfl rfl) (aU rfl (aA (aj (aJ (aI (.inl rfl) results240 rfl ?_))))))))))
 exact ⟨_, rfl, H1⟩
theorem yD (H : aB w0 w (yS v es • F)) (hB : ∀ k, k < es.length → EB (es.getD k default).says) (hL : es.length ≤ 16384) :
  fA prog 219 #[v] w fun v' w' => ∃ fs : List cO, fs.map cO.says = (es.map cO.says).reverse.map Cm ∧ aB w0 w' (Row 101 3 v' fs.length (fs.flatMap cO.enc) • iR fs • yS v es • F) := by
 refine fU func219 ntmps219 ?_
 dsimp only [aY, Nat.reduceAdd]
 refine ay (ah (aU rfl (aA (aj (ay (ah (ji (fV (l := [_]) H zeroValue35 rfl) ?_)))))))
 rintro _ w1 ⟨b1, rfl, H1⟩
 refine aA (aj (ay (ay (ah (aO rfl (bZ rfl func240 (MP H1 (Rd.one ((H1.f2).xg))) ?_))))))
 rintro _ w2 ⟨bB2, rfl, H2⟩
 refine aA (aj (bC ?_))
 have Ho3 := H2.f2
 have Hc4 := aB.OH (es := es) (k := 0) (fs := []) rfl (Ho3.oh none).swap
 refine tY rfl (MO bB2) (fun k => OE b1 es k • F) (fact False) (fun _ => fact False) (Hc4.f3.f3.f3.f3.f3.g2.comm) (by rfl) ?_ ?_ ?_ ?_
 ·rintro l5 k TG vs5 A5 ⟨rfl, rfl⟩ G5 w5 H5
  try simp only [bT, iY, oQ] at H5
  refine ⟨rfl, ?_⟩
  dsimp only [JA]
  have Hq := (H5).TF (k := es.length - (k + 1)) (by omega)
  obtain ⟨hb1, hb2⟩ := hB (es.length - (k + 1)) (by omega)
  have hb1 : (es.getD (es.length - (k + 1)) default).dl.length ≤ 35184372087808 := hb1
  have hb2 : (es.getD (es.length - (k + 1)) default).il.length ≤ 35184372087808 := hb2
  obtain ⟨u, fs, hfs, hfl, HI⟩ := (Hq.f4).Ii
  refine ah (ji (fV (l := [_, _, _]) HI zeroValue101 rfl) ?_)
  rintro _ w6 ⟨b6, rfl, H6⟩
  refine aG (cZ 0 (l' := [_, _, _]) (us := [_, _, _]) H6 sizeOf101 rfl rfl rfl (aC (by first | rfl | assumption) (aC (by first | rfl | exact Rd.one ((H6.f5).E8)) (aC (by first | rfl | exact Rd.one ((H6.f6).E8)) bU))) rfl rfl) ?_
  rintro _ w7 H7
  refine aA ?_
  refine Jz (H7.g8) ?_
  intro G8 w8 H8
  try simp only [bT] at H8
  refine bC ?_
  have VD := H8.drew
  have OI := aB.kp (VD.f7.f7.f7.f7.f7.f7.f7)
  refine yQ [0, 1] OI rfl (je 0 rfl OI (fun W hW => jE underlying35 rfl ((Kp.h hW).f2).get.2 rfl) (je 1 rfl OI (fun W hW => bW underlying101 rfl sizeOf101 rfl rfl ((Kp.h hW)).get.2) (jQ 2 rfl (wK rfl func241 (zh VD (fun W HW => (HW.f5).E8) (fun W HW => (HW.f6).E8) (by omega) (by omega))) ?_)))
  rintro _ w9 ⟨d9, s9, rfl, H9⟩
  have Jv := aB.kp (H9.f9.f9.f9.f9.f9.f9.f9.f9.f9)
  refine dP Jv (fun W hW => (Kp.h hW).right.right.f7.f7.f7.f7.f7.f7.f7) ?_
  refine jQ 3 rfl (pz H9 underlying35 sizeOf101 zeroValue101 rfl rfl rfl (by decide) (by decide)) ?_
  rintro l10 w10 mJ
  have Ez := aB.kp (mJ.f10.f10.f10.f10.f10.f10.f10.f10.f10.f10)
  refine dP Ez (fun W hW => (Kp.h hW).right.f9.f9.f9.f9.f9.f9.f9.f9.f9) ?_
  refine jQ 4 rfl (gX mJ.f6 underlying35 (show (prog.info? 101).map (fun i => (i.zero, i.size, i.bytes)) = some (some (.agg #[.int .i64 0, .slice none 0 0, .slice none 0 0]), 3, 56) by kernel_rfl) rfl rfl rfl ((mJ).aT) (aC (by first | rfl | assumption) (aC (by first | rfl | exact Rd.one ((mJ.f2).aT)) (aC (by first | rfl | exact Rd.one ((mJ.f3).aT)) bU))) (by omega) (by omega)) ?_
  rintro l11 He uO
  have JD := uO.f2.right
  have yC := aB.kp (JD.f9.f9.f9.f9.f9.f9.f9.f9.f9)
  refine fF yC (by kernel_rfl) ?_
  refine fH 5 rfl (by kernel_rfl) (aQ 0 (l' := [_]) JD.f5 sizeOf35 rfl rfl (by first | rfl | exact Rd.one ((JD).aT)) rfl rfl) ?_
  rintro _ ND vY
  have wO := aB.kp (vY.f9.f9.f9.f9.f9.f9.f9.f9.f9)
  refine fF wO (by kernel_rfl) ?_
  refine pU (aS ?_)
  refine Ci ?_
  have X := (vY.f5.right.f6.right.f6.right.f6.right.f6.f2.f6.f4.f6.f6).jv.swap.jv.swap
  have X2 := aB.rZ X.f3
  exact (aB.OH (es := es) (k := k + 1) (by rw [List.map_append, hfs, OG (by omega)]; rfl) X2.swap).deep
 ·rintro D14 Me yc
  have Hy := yc.ed
  try simp only [bT, iY, oQ] at Hy
  have TI := Hy.Kr
  obtain ⟨u, fs, hfs, hfl, HI⟩ := (TI.f4).Ii
  refine aS (aj (ay (ah (dS underlying35 rfl (HI).get.2 rfl (aU rfl (aA (aj (aJ ?_))))))))
  refine Ap (.inl rfl) (HI.f4) (fun Oe xO => ?_)
  refine ⟨_, SK results219 rfl, ?_⟩
  rw [List.take_of_length_le (by simp)] at hfs
  exact ⟨_, hfs, xO.right.f3.right.f3.f3.f3⟩
 ·rintro D w H; exact absurd H.swap.fact.1 id
 ·rintro id D w H; exact absurd H.swap.fact.1 fun h => h
end
end Go.Proofs.YtgndbccogcofjaaGreatDoor
end
