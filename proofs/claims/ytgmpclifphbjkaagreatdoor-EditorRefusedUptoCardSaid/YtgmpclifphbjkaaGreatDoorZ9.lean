import Derived.Test.YtgmpclifphbjkaaGreatDoorZ2
import Derived.Test.YtgmpclifphbjkaaGreatDoorZ8
import Derived.Test.YtgmpclifphbjkaaGreatDoorZ4
set_option linter.unusedSimpArgs false
set_option linter.unusedVariables false
/- Texts of mine, joined, their names in short: Eds UList Range UList2 UList3. -/
section
namespace Go.Proofs.YtgmpclifphbjkaaGreatDoor
open Go.RowKit
structure dH where
  a : Int
  d : Value
  dl : List Int
  i : Value
  il : List Int
instance : Inhabited dH := ⟨⟨0, .slice none 0 0, [], .slice none 0 0, []⟩⟩
def dH.enc (e : dH) : List Value := [.int .i64 e.a, e.d, e.i]
theorem dH.pI (e : dH) : e.enc.length = 3 := rfl
def dH.Yy (I : Hp) (e : dH) : Prop := y8 I .i32 e.d e.dl ∧ y8 I .i32 e.i e.il
theorem dH.Yy.mono {I I' : Hp} {e : dH} (hl : Hp.le I I') (h : e.Yy I) : e.Yy I' := ⟨h.1.mono hl, h.2.mono hl⟩
def dH.says (e : dH) : Int × List Int × List Int := (e.a, e.dl, e.il)
def Dv (I : Hp) (es : List dH) : Prop := ∀ k, k < es.length → (es.getD k default).Yy I
theorem Dv.mono {I I' : Hp} {es : List dH} (hl : Hp.le I I') (h : Dv I es) : Dv I' es := fun k hk => (h k hk).mono hl
theorem Dv.app {I : Hp} {es fs : List dH} (h : Dv I es) (g : Dv I fs) : Dv I (es ++ fs) := fun k hk => by
  by_cases hl : k < es.length
  · rw [qK hl]; exact h k hl
  · rw [pG (by omega)]; exact g _ (by simp at hk; omega)
theorem Dv.one {I : Hp} {e : dH} (h : e.Yy I) : Dv I [e] := fun k hk => by
  obtain rfl : k = 0 := by simp at hk; omega
  exact h
def jT (es : List dH) : HP := know (fun I => Dv I es) fun _ _ hl h => h.mono hl
def edK (e : dH) : HP := know (fun I => e.Yy I) fun _ _ hl h => h.mono hl
def Gl (v : Value) (es : List dH) : HP := Row 120 3 v es.length (es.flatMap dH.enc) • jT es
def Dw (I : Hp) (sz : Nat) (v : Value) (n : Nat) (xs : List Value) : Prop := xs.length = n * sz ∧ ∃ a c, v = .slice a n c ∧ n ≤ c ∧ (c : Int) ≤ 9223372036854775807 ∧
  (0 < n → ∃ b o cs e fr, a = some ⟨b, o, none⟩ ∧ I b = some (.cells cs e fr) ∧ ∀ j, j < n * sz → cs[o + j]? = some (xs.getD j undef))
theorem Dw.mono {I I' : Hp} {sz n : Nat} {v : Value} {xs : List Value} (hl : Hp.le I I') (h : Dw I sz v n xs) : Dw I' sz v n xs := by
  obtain ⟨h0, a, c, h1, h2, h3, h4⟩ := h
  exact ⟨h0, a, c, h1, h2, h3, fun hp => let ⟨b, o, cs, e, fr, e1, e2, e3⟩ := h4 hp; ⟨b, o, cs, e, fr, e1, hl _ _ e2, e3⟩⟩
theorem Dw.rd {w : World} {m : Nat} {I : Hp} {sz n : Nat} {v : Value} {xs : List Value} (h : Dw I sz v n xs) (hI : ∀ k o, I k = some o → m ≤ k ∧ w.heap[k]? = some o) : Rd w sz v n xs := by
  obtain ⟨h0, a, c, h1, h2, h3, h4⟩ := h
  exact ⟨h0, a, c, h1, h2, h3, fun hp => let ⟨b, o, cs, e, fr, e1, e2, e3⟩ := h4 hp; ⟨b, o, e1, fun j hj => fJ (hI _ _ e2).2 (e3 j hj)⟩⟩
theorem Dw.RV {I : Hp} {sz n : Nat} {v : Value} {xs : List Value} (h : Dw I sz v n xs) : v.oneCell' = true := by obtain ⟨_, a, c, rfl, _⟩ := h; rfl
def Yz (I : Hp) (v : Value) (es : List dH) : Prop := Dw I 3 v es.length (es.flatMap dH.enc) ∧ Dv I es
theorem Yz.mono {I I' : Hp} {v : Value} {es : List dH} (hl : Hp.le I I') (h : Yz I v es) : Yz I' v es := ⟨h.1.mono hl, h.2.mono hl⟩
def BG (v : Value) (es : List dH) : HP := know (fun I => Yz I v es) fun _ _ hl h => h.mono hl
def AU (I : Hp) (gs : List (Value × List dH)) : Prop := ∀ k, k < gs.length → Yz I (gs.getD k default).1 (gs.getD k default).2
theorem AU.mono {I I' : Hp} {gs : List (Value × List dH)} (hl : Hp.le I I') (h : AU I gs) : AU I' gs := fun k hk => (h k hk).mono hl
theorem AU.app {I : Hp} {es fs : List (Value × List dH)} (h : AU I es) (g : AU I fs) : AU I (es ++ fs) := fun k hk => by
  by_cases hl : k < es.length
  · rw [qK hl]; exact h k hl
  · rw [pG (by omega)]; exact g _ (by simp at hk; omega)
theorem AU.one {I : Hp} {v : Value} {es : List dH} (h : Yz I v es) : AU I [(v, es)] := fun k hk => by
  obtain rfl : k = 0 := by simp at hk; omega
  exact h
theorem AU.take {I : Hp} {gs : List (Value × List dH)} (h : AU I gs) (n : Nat) : AU I (gs.take n) := fun k hk => by
  simp at hk
  rw [BQ (by omega)]
  exact h k (by omega)
def pJ (gs : List (Value × List dH)) : HP := know (fun I => AU I gs) fun _ _ hl h => h.mono hl
def AV (v : Value) (gs : List (Value × List dH)) : HP := Row 64 1 v gs.length (gs.map (·.1)) • pJ gs
section
variable {w0 w : World} {F : HP} {v u : Value} {es fs : List dH} {e : dH} {gs : List (Value × List dH)} {a : Int} {d i : Value} {dl il : List Int}
theorem aB.Ew (H : aB w0 w F) : aB w0 w (jT [] • F) := H.DL fun I k hk => by simp at hk
theorem aB.J9 (H : aB w0 w F) : aB w0 w (pJ [] • F) := H.DL fun I k hk => by simp at hk
theorem aB.qL (H : aB w0 w F) (a : Option Addr) : aB w0 w (Gl (.slice a 0 0) [] • F) := (H.Ew.fZ (e := 120) (sz := 3) a).deep
theorem aB.AX (H : aB w0 w F) (a : Option Addr) : aB w0 w (AV (.slice a 0 0) [] • F) := (H.J9.fZ (e := 64) (sz := 1) a).deep
theorem aB.YA (H : aB w0 w (Gl v es • F)) : aB w0 w (Row 120 3 v es.length (es.flatMap dH.enc) • jT es • F) := H.flat
theorem aB.Xn (H : aB w0 w (AV v gs • F)) : aB w0 w (Row 64 1 v gs.length (gs.map (·.1)) • pJ gs • F) := H.flat
theorem aB.vP (H : aB w0 w (Row 120 3 v (es.length + 1) (es.flatMap dH.enc ++ [.int .i64 a, d, i]) • Dt .i32 d dl • Dt .i32 i il • jT es • F)) : aB w0 w (Gl v (es ++ [⟨a, d, dl, i, il⟩]) • F) := by
  have h1 : aB w0 w (Dt .i32 d dl • Dt .i32 i il • jT es • Row 120 3 v (es.length + 1) (es.flatMap dH.enc ++ [.int .i64 a, d, i]) • F) := H.of_eq (by ac_rfl)
  have h2 : aB w0 w (edK ⟨a, d, dl, i, il⟩ • jT es • Row 120 3 v (es.length + 1) (es.flatMap dH.enc ++ [.int .i64 a, d, i]) • F) := h1.DF (qQ (fun I h g => ⟨h, g⟩) _)
  have h3 : aB w0 w (jT (es ++ [⟨a, d, dl, i, il⟩]) • Row 120 3 v (es.length + 1) (es.flatMap dH.enc ++ [.int .i64 a, d, i]) • F) := h2.DF (qQ (fun I h g => g.app (Dv.one h)) _)
  refine aB.deep (h3.swap.of_eq ?_)
  rw [List.length_append, List.flatMap_append]
  simp [dH.enc]
theorem aB.tH (H : aB w0 w (Gl v es • F)) : aB w0 w (BG v es • F) := by
  have hl := H.YA.wz
  have H := H.YA
  rcases H.sW with ⟨a, rfl, h1, h2, H1⟩ | ⟨g, o, c, cur, rfl, h2, h3, h4, h5, H1⟩
  · refine H1.DF (pq (fun I hI => ⟨⟨hl, a, 0, by rw [h1], by omega, by decide, fun h => by omega⟩, hI⟩) F)
  · exact H1.freeze.DF (qQ (fun I hI hE => ⟨⟨hl, _, c, rfl, h2, h3, fun _ => ⟨g, o, cur, _, (0, 0), rfl, hI, h5⟩⟩, hE⟩) F)
theorem aB.zT (H : aB w0 w (BG v es • F)) : Rd w 3 v es.length (es.flatMap dH.enc) := let ⟨I, h, hI⟩ := H.uf; h.1.rd hI
theorem aB.Y9 (H : aB w0 w (BG v es • F)) {k : Nat} (hk : k < es.length) : jG w .i32 (es.getD k default).d (es.getD k default).dl := let ⟨I, h, hI⟩ := H.uf; (h.2 k hk).1.rd hI
theorem aB.Za (H : aB w0 w (BG v es • F)) {k : Nat} (hk : k < es.length) : jG w .i32 (es.getD k default).i (es.getD k default).il := let ⟨I, h, hI⟩ := H.uf; (h.2 k hk).2.rd hI
theorem aB.Ko (H : aB w0 w (pJ gs • F)) {k : Nat} (hk : k < gs.length) : aB w0 w (BG (gs.getD k default).1 (gs.getD k default).2 • pJ gs • F) := H.DY.DF (pq (fun I h => h k hk) _)
theorem aB.Si (H : aB w0 w (pJ gs • F)) (n : Nat) : aB w0 w (pJ (gs.take n) • F) := H.DF (pq (fun I h => h.take n) _)
theorem aB.vS (H : aB w0 w (Row 64 1 v (gs.length + 1) (gs.map (·.1) ++ [u]) • BG u es • pJ gs • F)) : aB w0 w (AV v (gs ++ [(u, es)]) • F) := by
  have h1 : aB w0 w (BG u es • pJ gs • Row 64 1 v (gs.length + 1) (gs.map (·.1) ++ [u]) • F) := H.of_eq (by ac_rfl)
  have h3 : aB w0 w (pJ (gs ++ [(u, es)]) • Row 64 1 v (gs.length + 1) (gs.map (·.1) ++ [u]) • F) := h1.DF (qQ (fun I h g => g.app (AU.one h)) _)
  refine aB.deep (h3.swap.of_eq ?_)
  rw [List.length_append, List.map_append]
  rfl
theorem aB.Kq (H : aB w0 w (jT es • F)) : ∀ x ∈ es.flatMap dH.enc, x.oneCell' = true := by
  obtain ⟨I, h, hI⟩ := H.uf
  intro x hx
  obtain ⟨e, he, hx⟩ := List.mem_flatMap.1 hx
  obtain ⟨k, hk, rfl⟩ := List.getElem_of_mem he
  have := h k hk
  rw [List.getD_eq_getElem?_getD, List.getElem?_eq_getElem hk] at this
  simp [dH.enc] at hx
  rcases hx with rfl | rfl | rfl
  · rfl
  · exact this.1.RV
  · exact this.2.RV
end
end Go.Proofs.YtgmpclifphbjkaaGreatDoor
end
section
namespace Go.Proofs.YtgmpclifphbjkaaGreatDoor
open Go.RowKit
open _root_.Go.Proofs.Tryz
abbrev eH := Int × List Int × List Int
def dX (G : List (List eH)) (N : List eH) : Nat := (G.map List.length).sum + N.length
def EB (e : eH) : Prop := e.2.1.length ≤ 35184372087808 ∧ e.2.2.length ≤ 35184372087808
theorem Vl {N : List eH} {x : eH} (h : ∀ e ∈ N, EB e) (hx : EB x) : ∀ e ∈ N ++ [x], EB e := fun e he => by
  rcases List.mem_append.1 he with he | he
  · exact h e he
  · rw [List.mem_singleton.1 he]; exact hx
theorem Kr {G : List (List eH)} {N : List eH} (h : ∀ g ∈ G, ∀ e ∈ g, EB e) (hx : ∀ e ∈ N, EB e) : ∀ g ∈ G ++ [N], ∀ e ∈ g, EB e := fun g hg => by
  rcases List.mem_append.1 hg with hg | hg
  · exact h g hg
  · rw [List.mem_singleton.1 hg]; exact hx
theorem OA {G : List (List eH)} {N : List eH} (h : ∀ g ∈ G, g ≠ []) (hx : N ≠ []) : ∀ g ∈ G ++ [N], g ≠ [] := fun g hg => by
  rcases List.mem_append.1 hg with hg | hg
  · exact h g hg
  · rw [List.mem_singleton.1 hg]; exact hx
def Vm (G : List (List eH)) (N : List eH) (op : Int) : Prop := (∀ g ∈ G, g ≠ []) ∧ dX G N ≤ 16384 ∧ 0 ≤ op ∧ op ≤ 4611686018427387904 ∧ (∀ g ∈ G, ∀ e ∈ g, EB e) ∧ ∀ e ∈ N, EB e
theorem Nl {G : List (List eH)} (h : ∀ g ∈ G, g ≠ []) : G.length ≤ (G.map List.length).sum := by
  induction G with
  | nil => simp
  | cons g G ih =>
    have h1 := ih fun x hx => h x (by simp [hx])
    have h2 : 0 < g.length := List.length_pos_iff.2 (h g (by simp))
    simp; omega
theorem Vm.len {G : List (List eH)} {N : List eH} {op : Int} (h : Vm G N op) : G.length + N.length ≤ 16384 := by
  have := Nl h.1
  have := h.2.1
  unfold dX at this
  omega
def fH (p : Nat) (G : List (List eH)) (N : List eH) (op : Int) : HP := sS fun (x : Value × Value × List (Value × List dH) × List dH) =>
  fact (Vm G N op ∧ x.2.2.1.map (fun g => g.2.map dH.says) = G ∧ x.2.2.2.map dH.says = N) • dA p (.cells #[x.1, x.2.1, .int .i64 op, .int .i64 (dX G N : Nat), .bool true] 171 (0, 0)) • AV x.1 x.2.2.1 • Gl x.2.1 x.2.2.2
section
variable {w0 w : World} {F : HP} {p : Nat} {G : List (List eH)} {N : List eH} {op : Int} {gv nv : Value} {gs : List (Value × List dH)} {now : List dH} {a : Int} {d z : Value} {dl il : List Int}
theorem aB.rW (H : aB w0 w (fH p G N op • F)) : ∃ gv nv gs now, Vm G N op ∧ gs.map (fun g => g.2.map dH.says) = G ∧ now.map dH.says = N ∧ gs.length = G.length ∧ now.length = N.length ∧ G.length + N.length ≤ 16384 ∧
    aB w0 w (dA p (.cells #[gv, nv, .int .i64 op, .int .i64 (dX G N : Nat), .bool true] 171 (0, 0)) • Row 64 1 gv gs.length (gs.map (·.1)) • pJ gs • Row 120 3 nv now.length (now.flatMap dH.enc) • jT now • F) := by
  obtain ⟨⟨gv, nv, gs, now⟩, H⟩ := H.oh
  obtain ⟨⟨h1, h2, h3⟩, H⟩ := H.flat.fact
  refine ⟨gv, nv, gs, now, h1, h2, h3, ?_, ?_, h1.len, ?_⟩
  · rw [← h2]; simp
  · rw [← h3]; simp
  · have := H.flat
    unfold AV Gl at this
    exact this.of_eq (by ac_rfl)
theorem aB.qW (h1 : Vm G N op) (h2 : gs.map (fun g => g.2.map dH.says) = G) (h3 : now.map dH.says = N) {ed : Int} (he : ed = (dX G N : Nat))
    (H : aB w0 w (dA p (.cells #[gv, nv, .int .i64 op, .int .i64 ed, .bool true] 171 (0, 0)) • AV gv gs • Gl nv now • F)) : aB w0 w (fH p G N op • F) := by
  subst he
  exact aB.iF (gv, nv, gs, now) (aB.deep (aB.kJ ⟨h1, h2, h3⟩ (H.of_eq (by ac_rfl))))
theorem aB.jV (h1 : Vm G N op) (h2 : gs.map (fun g => g.2.map dH.says) = G) (h3 : now.map dH.says = N) {ed : Int} (he : ed = (dX G N : Nat))
    (H : aB w0 w (dA p (.cells #[gv, nv, .int .i64 op, .int .i64 ed, .bool true] 171 (0, 0)) • Row 64 1 gv gs.length (gs.map (·.1)) • pJ gs • Row 120 3 nv now.length (now.flatMap dH.enc) • jT now • F)) : aB w0 w (fH p G N op • F) :=
  aB.qW h1 h2 h3 he (H.of_eq (by unfold AV Gl; ac_rfl))
theorem ji (H : aB w0 w (fH p G N op • F)) : fQ prog 127 #[.pointer (some ⟨p, 0, none⟩)] w fun v w' => v = .bool false ∧ w = w' := by
 refine gX func127 ntmps127 ?_
 dsimp only [bg, Nat.reduceAdd]
 refine ay (ah (aV rfl (aA (aj (ay ?_)))))
 obtain ⟨xI, uO, kF, jJ, jl, qp, oO, BU, BX, Gm, lX⟩ := (H).rW
 refine ah (aO rfl (aU (jc underlying116 rfl rfl) (jo rfl (fun h1 => ?_) (fun h1 => ?_))))
 ·(try simp only [aG] at h1)
  try (exfalso; first | contradiction | omega)
  all_goals
   refine bI (bI (bI (bI (bI (jO rfl rfl (aV rfl (aA (aj (aJ (aP (.inl rfl) results127 rfl ?_))))))))))
   exact ⟨rfl, rfl⟩
 ·(try simp only [aG] at h1)
  try (exfalso; first | contradiction | omega)
  all_goals
   refine bD (aO rfl (bD (bH rfl (bD (aZ 4 underlying171 rfl sizeOf4 rfl (bD (cO underlying4 rfl (lX).get.2 rfl (bD (aU (kM rfl) (jr rfl rfl (aV rfl (aA (aj (aJ (aP (.inl rfl) results127 rfl ?_)))))))))))))))
   exact ⟨rfl, rfl⟩
theorem I7 (H : aB w0 w F) : fQ prog 126 #[] w fun v w' => ∃ p, v = .pointer (some ⟨p, 0, none⟩) ∧ aB w0 w' (fH p [] [] 0 • F) := by
 refine gX func126 ntmps126 ?_
 dsimp only [bg, Nat.reduceAdd]
 refine ay (ah (aV rfl (aA (aj (ay (ah (aU (gq (pl := #[(0, 4), (4, 1)]) (#[_, _, _, _, _]) underlying171 zeroValue171 (fun w => by kernel_rfl) rfl (rfl)) (iy (iq (l := [_, _, _, _, _]) H rfl rfl) ?_))))))))
 rintro _ w1 ⟨b1, rfl, H1⟩
 refine aV rfl (aA (aj (aJ (aP (.inl rfl) results126 rfl ?_))))
 refine ⟨_, rfl, aB.qW (gv := .slice none 0 0) (nv := .slice none 0 0) (gs := []) (now := []) ⟨by simp, by decide, by decide, by decide, by simp, by simp⟩ rfl rfl rfl ?_⟩
 exact (((H1).qL none).AX none).of_eq (by ac_rfl)
theorem I8 (H : aB w0 w (fH p G N op • F)) : fQ prog 60 #[.pointer (some ⟨p, 0, none⟩)] w fun v w' => v = .int .i64 ((G.length : Int) + min 1 N.length) ∧ aB w0 w' (fH p G N op • F) := by
 refine gX func60 ntmps60 ?_
 dsimp only [bg, Nat.reduceAdd]
 refine ay (ah (aV rfl (aA (aj (ay (ay (ah (aO rfl (dw rfl func127 (ji H) ?_)))))))))
 rintro _ _ ⟨rfl, rfl⟩
 refine aA (aj (qN (aS (aj (ay ?_)))))
 obtain ⟨xI, uO, kF, jJ, jl, qp, oO, BU, BX, Gm, lX⟩ := (H).rW
 have xH := lX.drew
 have dU := aB.kp (xH.f5.f5.f5.f5.f5)
 refine uH [4, 10] dU rfl (fU 0 rfl dU rfl (iT 1 rfl dU rfl (dP 2 rfl dU 0 underlying171 rfl sizeOf169 rfl (dP 3 rfl dU 0 underlying169 rfl sizeOf167 rfl (gQ 4 rfl dU (fun W hW => iI underlying167 rfl ((Kp.h hW)).get.2 rfl) (iJ 5 rfl dU (fun _ => fB ((xH.f2).aT) underlying167 rfl) (fU 6 rfl dU rfl (iT 7 rfl dU rfl (dP 8 rfl dU 0 underlying171 rfl sizeOf169 rfl (dP 9 rfl dU 1 underlying169 rfl sizeOf64 rfl (gQ 10 rfl dU (fun W hW => iI underlying64 rfl ((Kp.h hW)).get.2 rfl) (iJ 11 rfl dU (fun _ => fB ((xH.f4).aT) underlying64 rfl) (iJ 12 rfl dU (fun _ => Oq rfl rfl) (iJ 13 rfl dU (fun _ => eP rfl rfl (by omega)) (iJ 14 rfl dU (fun _ => fO rfl) (mg (aj (aJ (aP (.inl rfl) results60 rfl ?_)))))))))))))))))))
 have Sj := xH.f5.f5.f5.f5.f5
 have Sl := aB.jV jl qp oO rfl Sj
 exact ⟨by rw [BU, BX]; congr 1; omega, Sl⟩
theorem Ey (H : aB w0 w (fH p G N op • F)) : fQ prog 114 #[.pointer (some ⟨p, 0, none⟩)] w fun v w' => v = .int .i64 (dX G N : Nat) ∧ aB w0 w' (fH p G N op • F) := by
 refine gX func114 ntmps114 ?_
 dsimp only [bg, Nat.reduceAdd]
 refine ay (ah (aV rfl (aA (aj (ay (ay (ah (aO rfl (dw rfl func127 (ji H) ?_)))))))))
 rintro _ _ ⟨rfl, rfl⟩
 refine aA (aj (qN (aS (aj (ay ?_)))))
 obtain ⟨xI, uO, kF, jJ, jl, qp, oO, BU, BX, Gm, lX⟩ := (H).rW
 refine ah (aO rfl (bH rfl (aZ 0 underlying171 rfl sizeOf169 rfl (aZ 3 underlying169 rfl sizeOf3 rfl (cO underlying3 rfl (lX).get.2 rfl (aV rfl (aA (aj (aJ (aP (.inl rfl) results114 rfl ?_))))))))))
 have Sj := lX.f5.f5.f5.f5.f5
 have Sl := aB.jV jl qp oO rfl Sj
 exact ⟨rfl, Sl⟩
theorem tJ (H : aB w0 w (fH p G N op • F)) (hb : op < 4611686018427387904) : fQ prog 121 #[.pointer (some ⟨p, 0, none⟩)] w fun v w' => v = .int .i64 0 ∧ aB w0 w' (fH p G N (op + 1) • F) := by
 have hop : 0 ≤ op := by obtain ⟨gv, nv, gs, now, k1, _⟩ := H.rW; exact k1.2.2.1
 refine gX func121 ntmps121 ?_
 dsimp only [bg, Nat.reduceAdd]
 refine ay (ah (aV rfl (aA (aj (ay (ay (ah (aO rfl (dw rfl func127 (ji H) ?_)))))))))
 rintro _ _ ⟨rfl, rfl⟩
 refine aA (aj (qN (aS (aj (ay ?_)))))
 obtain ⟨xI, uO, kF, jJ, jl, qp, oO, BU, BX, Gm, lX⟩ := (H).rW
 refine ah (aO rfl (bH rfl (aZ 0 underlying171 rfl sizeOf169 rfl (aZ 2 underlying169 rfl sizeOf3 rfl (cO underlying3 rfl (lX).get.2 rfl (aU (eP rfl rfl (by omega)) (bH rfl (aZ 0 underlying171 rfl sizeOf169 rfl (aZ 2 underlying169 rfl sizeOf3 rfl (aI (aN 2 (l' := [_, _, _, _, _]) lX sizeOf3 rfl rfl (by first | rfl | assumption) rfl rfl) ?_))))))))))
 rintro _ w3 H3
 refine aA (aj (ay (ah (aV rfl (aA (aj (aJ (aP (.inl rfl) results121 rfl ?_))))))))
 exact ⟨rfl, aB.jV ⟨jl.1, jl.2.1, by omega, by omega, jl.2.2.2.2⟩ qp oO rfl H3.f5.f5.f5.f5.f5⟩
def rH (G : List (List eH)) (N : List eH) (a : Int) (dl il : List Int) : Int := if dl.length + il.length = 0 ∨ a < 0 then 1 else if 16384 ≤ dX G N then 3 else 0
def Np (G : List (List eH)) (N : List eH) (op a : Int) (dl il : List Int) : List (List eH) := if rH G N a dl il = 0 then (if 0 < op then G else G ++ [[(a, dl, il)]]) else G
def Nq (G : List (List eH)) (N : List eH) (op a : Int) (dl il : List Int) : List eH := if rH G N a dl il = 0 then (if 0 < op then N ++ [(a, dl, il)] else N) else N
theorem I9 {x : eH} : dX G (N ++ [x]) = dX G N + 1 := by simp [dX]; omega
theorem Kt {x : eH} : dX (G ++ [[x]]) N = dX G N + 1 := by simp [dX]; omega
theorem Ez (h : rH G N a dl il ≠ 0) : Np G N op a dl il = G := by unfold Np; rw [if_neg h]
theorem EC (h : rH G N a dl il ≠ 0) : Nq G N op a dl il = N := by unfold Nq; rw [if_neg h]
theorem DT (h : rH G N a dl il = 0) (ho : 0 < op) : Np G N op a dl il = G := by unfold Np; rw [if_pos h, if_pos ho]
theorem DU (h : rH G N a dl il = 0) (ho : 0 < op) : Nq G N op a dl il = N ++ [(a, dl, il)] := by unfold Nq; rw [if_pos h, if_pos ho]
theorem Sm (h : rH G N a dl il = 0) (ho : ¬ 0 < op) : Np G N op a dl il = G ++ [[(a, dl, il)]] := by unfold Np; rw [if_pos h, if_neg ho]
theorem Sr (h : rH G N a dl il = 0) (ho : ¬ 0 < op) : Nq G N op a dl il = N := by unfold Nq; rw [if_pos h, if_neg ho]
theorem wG (H : aB w0 w (fH p G N op • F)) (hd : iU w0 F .i32 d dl) (hi : iU w0 F .i32 z il) (b2 : dl.length ≤ 35184372087808) (b3 : il.length ≤ 35184372087808) :
  fQ prog 122 #[.pointer (some ⟨p, 0, none⟩), Y8 a d z] w fun v w' => v = .int .i64 (rH G N a dl il) ∧ aB w0 w' (fH p (Np G N op a dl il) (Nq G N op a dl il) op • F) := by
 refine gX func122 ntmps122 ?_
 dsimp only [bg, Nat.reduceAdd]
 refine ay (ah (iy (iq (l := [_, _, _]) H rfl rfl) ?_))
 rintro _ w1 ⟨b1, rfl, H1⟩
 refine aV rfl (aA (aj (ay (ay (ah (aO rfl (dw rfl func127 (ji H1.f2) ?_)))))))
 rintro _ _ ⟨rfl, rfl⟩
 refine aA (aj (qN (aS (aj (ay (ay (ah (aZ 1 underlying120 rfl sizeOf22 rfl (cO underlying22 rfl (H1).get.2 rfl (aU (oz (hd _ (H1.right.right)) underlying22 rfl) (aZ 2 underlying120 rfl sizeOf22 rfl (cO underlying22 rfl (H1).get.2 rfl (aU (oz (hi _ (H1.right.right)) underlying22 rfl) (aU (eP rfl rfl (by omega)) (aU (dW rfl rfl) (jo rfl (fun h1 => ?_) (fun h1 => ?_)))))))))))))))))
 ·(try simp only [aG] at h1)
  refine bI (bI (bI (jO rfl rfl (aA (aj (yL (ay (ah (aV rfl (aA (aj (aJ (aK (aP (.inl rfl) results122 rfl ?_))))))))))))))
  have e : rH G N a dl il = 1 := by unfold rH; rw [if_pos (by omega)]
  rw [Ez (by rw [e]; decide), EC (by rw [e]; decide), e]
  exact ⟨rfl, H1.right⟩
 ·(try simp only [aG] at h1)
  refine bD (aZ 0 underlying120 rfl sizeOf3 rfl (bD (cO underlying3 rfl (H1).get.2 rfl (bD (aU (dL rfl rfl) (jr rfl rfl (aA (aj (aH rfl (fun h2 => ?_) (fun h2 => ?_))))))))))
  ·(try simp only [aG] at h2)
   refine ay (ah (aV rfl (aA (aj (aJ (aK (aP (.inl rfl) results122 rfl ?_)))))))
   have e : rH G N a dl il = 1 := by unfold rH; rw [if_pos (by omega)]
   rw [Ez (by rw [e]; decide), EC (by rw [e]; decide), e]
   exact ⟨rfl, H1.right⟩
  ·(try simp only [aG] at h2)
   refine aS (aj (ay (ay ?_)))
   obtain ⟨xI, uO, kF, jJ, jl, qp, oO, BU, BX, Gm, lX⟩ := (H1.f2).rW
   refine ah (aO rfl (bH rfl (aZ 0 underlying171 rfl sizeOf169 rfl (aZ 3 underlying169 rfl sizeOf3 rfl (cO underlying3 rfl (lX).get.2 rfl (aU (D7 rfl rfl) (aA (aj (aH rfl (fun h3 => ?_) (fun h3 => ?_))))))))))
   ·(try simp only [aG] at h3)
    refine ay (ah (aV rfl (aA (aj (aJ (aK (aP (.inl rfl) results122 rfl ?_)))))))
    have e : rH G N a dl il = 3 := by unfold rH; rw [if_neg (by omega), if_pos (by omega)]
    have Zb := lX.f5.f5.f5.f5.f5
    have Zc := aB.jV jl qp oO rfl Zb
    rw [Ez (by rw [e]; decide), EC (by rw [e]; decide), e]
    exact ⟨rfl, Zc.f2.right⟩
   ·(try simp only [aG] at h3)
    refine aS (aj (ay (ah (aO rfl (bH rfl (aZ 0 underlying171 rfl sizeOf169 rfl (aZ 3 underlying169 rfl sizeOf3 rfl (cO underlying3 rfl (lX).get.2 rfl (aU (eP rfl rfl (by omega)) (bH rfl (aZ 0 underlying171 rfl sizeOf169 rfl (aZ 3 underlying169 rfl sizeOf3 rfl (aI (aN 3 (l' := [_, _, _, _, _]) lX sizeOf3 rfl rfl (by first | rfl | assumption) rfl rfl) ?_)))))))))))))
    rintro _ w7 H7
    refine aA (aj (ay (ay (ah (aO rfl (bH rfl (aZ 0 underlying171 rfl sizeOf169 rfl (aZ 2 underlying169 rfl sizeOf3 rfl (cO underlying3 rfl (H7).get.2 rfl (aU (dQ rfl rfl) (aA (aj (aH rfl (fun h4 => ?_) (fun h4 => ?_))))))))))))))
    ·(try simp only [aG] at h4)
     have Zd := H7.drew
     have CU := aB.kp (Zd.f6.f6.f6.f6.f6.f6)
     refine uH [5, 6] CU rfl (fU 0 rfl CU rfl (fU 1 rfl CU rfl (iT 2 rfl CU rfl (dP 3 rfl CU 0 underlying171 rfl sizeOf169 rfl (dP 4 rfl CU 1 underlying169 rfl sizeOf64 rfl (gQ 5 rfl CU (fun W hW => iI underlying64 rfl ((Kp.h hW)).get.2 rfl) (gQ 6 rfl CU (fun W hW => bU underlying120 rfl sizeOf120 rfl rfl ((Kp.h hW).f6).get.2) (jH 7 rfl (rU rfl func170 (sD Zd (fun W HW => hd _ (HW.right.right.right.right.right.right)) (fun W HW => hi _ (HW.right.right.right.right.right.right)) (by omega) (by omega))) ?_))))))))
     rintro _ w8 ⟨d8, s8, rfl, H8⟩
     have Ja := aB.kp (H8.f8.f8.f8.f8.f8.f8.f8.f8)
     refine bW Ja (fun W hW => (Kp.h hW).right.right.f6.f6.f6.f6.f6.f6) ?_
     refine jH 8 rfl (oL H8 underlying64 sizeOf120 zeroValue120 rfl rfl rfl (by decide) (by decide)) ?_
     rintro l9 w9 H9
     have Sv := aB.kp (H9.f9.f9.f9.f9.f9.f9.f9.f9.f9)
     refine bW Sv (fun W hW => (Kp.h hW).right.f8.f8.f8.f8.f8.f8.f8.f8) ?_
     refine jH 9 rfl (fK H9.f7 underlying64 (show (prog.info? 120).map (fun i => (i.zero, i.size, i.bytes)) = some (some (.agg #[.int .i64 0, .slice none 0 0, .slice none 0 0]), 3, 56) by kernel_rfl) rfl rfl rfl ((H9).aT) (aC (by first | rfl | assumption) (aC (by first | rfl | exact Rd.one ((H9.f2).aT)) (aC (by first | rfl | exact Rd.one ((H9.f3).aT)) bn))) (by omega) (by omega)) ?_
     rintro l10 w10 oP
     have Xo := oP.f2.right
     have OB := aB.kp (Xo.f8.f8.f8.f8.f8.f8.f8.f8)
     refine fA OB (by kernel_rfl) ?_
     refine iT 10 rfl OB rfl (dP 11 rfl OB 0 underlying171 rfl sizeOf169 rfl (dP 12 rfl OB 1 underlying169 rfl sizeOf64 rfl ?_))
     refine dB 13 rfl (by kernel_rfl) (aN 1 (l' := [_, _, _, _, _]) Xo.f4 sizeOf64 rfl rfl (by first | rfl | exact Rd.one ((Xo).aT)) rfl rfl) ?_
     rintro _ w12 rV
     have ED := aB.kp (rV.f8.f8.f8.f8.f8.f8.f8.f8)
     refine fA ED (by kernel_rfl) ?_
     have hadd : 0 < op := by omega
     refine mg (aj (ay (ah (aV rfl (aA (aj (aJ (aP (.inl rfl) results122 rfl ?_))))))))
     have e : rH G N a dl il = 0 := by unfold rH; rw [if_neg (by omega), if_neg (by omega)]
     rw [DT e hadd, DU e hadd, e]
     have X := (rV.f8.right.f6.f6.f3.f7.f5.f7.f7).kT.swap.kT.swap
     have X2 := aB.vP X.f3
     refine ⟨rfl, aB.qW (gv := xI) (nv := l10) (gs := kF) (now := jJ ++ [⟨a, d8, dl, s8, il⟩]) (ed := (dX G N : Nat) + 1) ⟨jl.1, by rw [I9]; omega, jl.2.2.1, jl.2.2.2.1, jl.2.2.2.2.1, Vl jl.2.2.2.2.2 ⟨b2, b3⟩⟩ qp (by rw [List.map_append, oO]; rfl) (by rw [I9]; rfl) (X2.of_eq (by unfold AV; ac_rfl))⟩
    ·(try simp only [aG] at h4)
     have Sz := H7.drew
     have uh := aB.kp (Sz.f6.f6.f6.f6.f6.f6)
     refine uH [5, 6] uh rfl (fU 0 rfl uh rfl (fU 1 rfl uh rfl (iT 2 rfl uh rfl (dP 3 rfl uh 0 underlying171 rfl sizeOf169 rfl (dP 4 rfl uh 0 underlying169 rfl sizeOf167 rfl (gQ 5 rfl uh (fun W hW => iI underlying167 rfl ((Kp.h hW)).get.2 rfl) (gQ 6 rfl uh (fun W hW => bU underlying120 rfl sizeOf120 rfl rfl ((Kp.h hW).f6).get.2) (jH 7 rfl (rU rfl func170 (sD Sz (fun W HW => hd _ (HW.right.right.right.right.right.right)) (fun W HW => hi _ (HW.right.right.right.right.right.right)) (by omega) (by omega))) ?_))))))))
     rintro _ MB ⟨d13, s13, rfl, vZ⟩
     have EF := aB.kp (vZ.f8.f8.f8.f8.f8.f8.f8.f8)
     refine bW EF (fun W hW => (Kp.h hW).right.right.f6.f6.f6.f6.f6.f6) ?_
     refine jH 8 rfl (oL vZ underlying64 sizeOf120 zeroValue120 rfl rfl rfl (by decide) (by decide)) ?_
     rintro l14 JE uX
     have Ku := aB.kp (uX.f9.f9.f9.f9.f9.f9.f9.f9.f9)
     refine bW Ku (fun W hW => (Kp.h hW).right.f8.f8.f8.f8.f8.f8.f8.f8) ?_
     refine jH 9 rfl (lQ (vs := [_]) uX underlying167 sizeOf64 zeroValue64 rfl rfl rfl (by decide) (aC (by first | rfl | exact Rd.one ((uX).aT)) bn)) ?_
     rintro l15 P8 yQ
     have zn := aB.kp (yQ.f10.f10.f10.f10.f10.f10.f10.f10.f10.f10)
     refine bW zn (fun W hW => (Kp.h hW).right.f9.f9.f9.f9.f9.f9.f9.f9.f9) ?_
     refine jH 10 rfl (fK yQ.f6 underlying167 (show (prog.info? 64).map (fun i => (i.zero, i.size, i.bytes)) = some (some (.slice none 0 0), 1, 24) by kernel_rfl) rfl rfl rfl ((yQ).aT) (aC (by first | rfl | exact Rd.one ((yQ.f2).aT)) bn) (by omega) (by omega)) ?_
     rintro l16 w16 qH
     have SA := qH.f2.right
     have CV := aB.kp (SA.f9.f9.f9.f9.f9.f9.f9.f9.f9)
     refine fA CV (by kernel_rfl) ?_
     refine iT 11 rfl CV rfl (dP 12 rfl CV 0 underlying171 rfl sizeOf169 rfl (dP 13 rfl CV 0 underlying169 rfl sizeOf167 rfl ?_))
     refine dB 14 rfl (by kernel_rfl) (aN 0 (l' := [_, _, _, _, _]) SA.f5 sizeOf167 rfl rfl (by first | rfl | exact Rd.one ((SA).aT)) rfl rfl) ?_
     rintro _ UO BF
     have EG := aB.kp (BF.f9.f9.f9.f9.f9.f9.f9.f9.f9)
     refine fA EG (by kernel_rfl) ?_
     have hadd : ¬ 0 < op := by omega
     refine mg (aj (ay (ah (aV rfl (aA (aj (aJ (aP (.inl rfl) results122 rfl ?_))))))))
     have e : rH G N a dl il = 0 := by unfold rH; rw [if_neg (by omega), if_neg (by omega)]
     rw [Sm e hadd, Sr e hadd, e]
     have X := (BF.f9.right.f8.f8.f3.f8.f5.f6.f8.f8).kT.swap.kT.swap
     have X2 := aB.vP (es := []) X.Ew.f3.f3.f4
     have X4 := aB.vS X2.tH.swap
     refine ⟨rfl, aB.qW (gv := l16) (nv := uO) (gs := kF ++ [(l14, [⟨a, d13, dl, s13, il⟩])]) (now := jJ) (ed := (dX G N : Nat) + 1) ⟨OA jl.1 (List.cons_ne_nil _ _), by rw [Kt]; omega, jl.2.2.1, jl.2.2.2.1, Kr jl.2.2.2.2.1 (by intro e he; rw [List.mem_singleton.1 he]; exact ⟨b2, b3⟩), jl.2.2.2.2.2⟩ (by rw [List.map_append, qp]; rfl) oO (by rw [Kt]; rfl) (X4.of_eq (by unfold Gl; ac_rfl))⟩
end
end Go.Proofs.YtgmpclifphbjkaaGreatDoor
end
section
namespace Go.Proofs.YtgmpclifphbjkaaGreatDoor
open Go.RowKit
def Jb (P : Program) (l : Nat) (vs : List Value) (w : World) (T : Value → World → Prop) : Prop :=
  ∃ f tmps c d, (Instr.yield l vs.toArray).run P w = .ok (.round l f tmps c d) w ∧ RoundIn Fence.wide 0 P l f tmps c d w fun e w' => ∃ v, e = .returned v ∧ T v w'
theorem Jb.mono {P : Program} {l : Nat} {vs : List Value} {w : World} {T T' : Value → World → Prop} (h : Jb P l vs w T) (k : ∀ v w', T v w' → T' v w') : Jb P l vs w T' :=
  let ⟨f, tmps, c, d, h1, h2⟩ := h; ⟨f, tmps, c, d, h1, RoundIn.mono h2 fun _ _ ⟨v, e, t⟩ => ⟨v, e, k _ _ t⟩⟩
theorem Jb.bool {P : Program} {l : Nat} {vs : List Value} {w : World} {A B : World → Prop} (h : Jb P l vs w fun v W' => (v = .bool true ∧ A W') ∨ (v = .bool false ∧ B W')) : Jb P l vs w fun v W' => ∃ t, v = .bool t ∧ (t = true → A W') ∧ (t = false → B W') :=
  h.mono fun v W' hv => by
    rcases hv with ⟨rfl, h⟩ | ⟨rfl, h⟩
    · exact ⟨true, rfl, fun _ => h, fun e => by cases e⟩
    · exact ⟨false, rfl, (fun e => by cases e), fun _ => h⟩
theorem Jc {P : Program} {L : List (Nat × Value)} {w : World} {ty : TypeId} {x : Operand} {args : List Operand} {ts : Array TypeId} {l : Nat} {vs : List Value} {T : Value → World → Prop} (hx : ev L x = some (.func (.yield l) #[] #[])) (ha : Cm L args = some vs) (h : Jb P l vs w T) :
    tZ P L (.call ⟨.value x, args.toArray, ts⟩) ty w T := by
  obtain ⟨f, tmps, c, d, hy, hr⟩ := h
  refine UY (fun ρ hρ dd pos nG g => ?_) hr
  have hg := hρ _ _ hx
  simp [execOp, resolve, invoke, YL hρ _ _ ha, hg, Deferred.ofValue, hy]
def Iter (P : Program) (w0 : World) (fv : Value) (R : HP) (n : Nat) (E : Nat → List Value → HP → Prop) : Prop :=
  ∀ (l : Nat) (J : Nat → HP) (X : HP) (w : World),
    (∀ k, k < n → ∀ vs A, E k vs A → ∀ G W, aB w0 W (A • J k • G) → Jb P l vs W fun v W' => (v = .bool true ∧ aB w0 W' (J (k + 1) • G)) ∨ (v = .bool false ∧ aB w0 W' (X • G))) →
    aB w0 w (J 0 • R) → V5 P fv [.func (.yield l) #[] #[]] w fun _ W' => aB w0 W' (J n • R) ∨ aB w0 W' (X • R)
def Kv (w0 : World) (I : HP) (Xr : HP) (Xe : Nat → HP) (G : HP) : Exit → Act → World → Prop
  | .normal, _, W => aB w0 W (I • G)
  | .ret, _, W => aB w0 W (Xr • G)
  | .exit id, _, W => aB w0 W (Xe id • G)
  | _, _, _ => False
def OC (P : Program) (N : Sh) (w0 : World) (body : Code) (I : HP) (Xr : HP) (Xe : Nat → HP) (G : HP) (a : Act) (W : World) : Prop :=
  ∃ (L : List (Nat × Value)) (B : HP), Fits N L a ∧ aB w0 W (B • G) ∧ ∀ G' W', aB w0 W' (B • G') → WC P N body (Kv w0 I Xr Xe G') L W'
def SB : Exit → Act → World → Prop := fun _ _ _ => False
theorem Nr {P : Program} {N : Sh} {w0 w : World} {body : Code} {I Xr : HP} {Xe : Nat → HP} {G B : HP} {L : List (Nat × Value)} (H : aB w0 w (B • G)) (h : ∀ G' W', aB w0 W' (B • G') → WC P N body (Kv w0 I Xr Xe G') L W') :
    WQ N (Exit.then (OC P N w0 body I Xr Xe G) SB) .normal L w := fun _ a ha => ⟨L, B, ha, H, h⟩
theorem EH {N : Sh} {w0 w : World} {I Xr : HP} {Xe : Nat → HP} {G : HP} {L : List (Nat × Value)} (H : aB w0 w (I • G)) : WQ N (Kv w0 I Xr Xe G) .normal L w := fun _ _ _ => H
theorem SC {N : Sh} {w0 w : World} {I Xr : HP} {Xe : Nat → HP} {G : HP} {id : Nat} {L : List (Nat × Value)} (H : aB w0 w (Xe id • G)) : WQ N (Kv w0 I Xr Xe G) (.exit id) L w := fun _ _ _ => H
theorem SE {w0 : World} {I Xr : HP} {Xe : Nat → HP} {G : HP} : NP (Kv w0 I Xr Xe G) := fun _ _ _ h => h
def Ns : List Nat → List Value → List (Nat × Value) → List (Nat × Value)
  | [], _, L => L
  | _ :: _, [], L => L
  | p :: ps, v :: vs, L => Ns ps vs ((p, v) :: L)
theorem Kw {n l : Nat} : ∀ (ps : List Nat) (vs : List Value) (L : List (Nat × Value)) (tmps : Array Value), (∀ p ∈ ps, p < n) → Fits ⟨n, [], some l⟩ L { tmps := tmps, defers := [] } →
    Fits ⟨n, [], some l⟩ (Ns ps vs L) { tmps := (ps.zip vs).foldl (fun t (p : Nat × Value) => t.setIfInBounds p.1 p.2) tmps, defers := [] }
  | [], _, _, _, _, h => h
  | _ :: _, [], _, _, _, h => h
  | p :: ps, v :: vs, L, tmps, hp, h => Kw ps vs _ _ (fun q hq => hp q (by simp [hq])) (h.put (hp p (by simp)) v)
section
variable {P : Program} {N : Sh} {Q : Exit → Act → World → Prop} {L : List (Nat × Value)} {w0 w : World}
theorem wH {g : Operand} {ps : List Nat} {assign body : Code} {fv : Value} {R : HP} {n : Nat} {E : Nat → List Value → HP → Prop} (hg : ev L g = some fv) (hit : Iter P w0 fv R n E) (I : Nat → HP) (Xr : HP) (Xe : Nat → HP) (H : aB w0 w (I 0 • R))
    (hps : ps.all (· < N.n) = true)
    (hbody : ∀ l k, k < n → ∀ vs A, E k vs A → ∀ G W, aB w0 W (A • I k • G) → vs.length = ps.length ∧ WC P ⟨N.n, [], some l⟩ assign (Exit.then (OC P ⟨N.n, [], some l⟩ w0 body (I (k + 1)) Xr Xe G) SB) (Ns ps vs L) W)
    (hdone : ∀ D W, aB w0 W (dA D (.deferred (some [])) • I n • R) → WQ ⟨N.n, D :: N.ds, none⟩ Q .normal L W)
    (hret : ∀ D W, aB w0 W (dA D (.deferred (some [])) • Xr • R) → WQ ⟨N.n, D :: N.ds, none⟩ Q .ret L W)
    (Ze : ∀ id D W, aB w0 W (dA D (.deferred (some [])) • Xe id • R) → WQ ⟨N.n, D :: N.ds, none⟩ Q (.exit id) L W)
    (hro : N.ro = none := by rfl) : WC P N (.rangeFunc g ps.toArray assign body) Q L w := fun np a ha => by
  rw [hro]
  refine wpIn_rangeFunc fun fn _ => ?_
  let pR : LoopState → Option Code → Loop := fun s j => { state := s, pending := j, fn, tmps := a.tmps, params := ps.toArray, assign, body, defers := w.heap.size }
  have aaB := run_enterLoop_outer (P := P) (w := w) fn a.tmps ps.toArray assign body
  have H1 : aB w0 ((w.alloc (.deferred (some []))).alloc (.loop (pR .ready none))) (dA (w.heap.size + 1) (.loop (pR .ready none)) • dA w.heap.size (.deferred (some [])) • I 0 • R) := by
    have := (H.alloc (.deferred (some []))).alloc (.loop (pR .ready none))
    rw [World.size_alloc] at this
    exact this
  let Lk : LoopState → Option Code → HP := fun s j => dA (w.heap.size + 1) (.loop (pR s j)) • dA w.heap.size (.deferred (some []))
  have Xp : ∀ k, k < n → ∀ vs A, E k vs A → ∀ G W, aB w0 W (A • (Lk .ready none • I k) • G) → Jb P (w.heap.size + 1) vs W fun v W' => (v = .bool true ∧ aB w0 W' ((Lk .ready none • I (k + 1)) • G)) ∨
      (v = .bool false ∧ aB w0 W' (sS (fun c : Code => Lk .done (some c) • (match c with | .ret => Xr | .exit id => Xe id | _ => fact False)) • G)) := by
    intro k hk vs A hE G W HW
    have e1 : (A • (Lk .ready none • I k) • G) = (dA (w.heap.size + 1) (.loop (pR .ready none)) • A • I k • dA w.heap.size (.deferred (some [])) • G) := by
      show (A • ((dA (w.heap.size + 1) (.loop (pR .ready none)) • dA w.heap.size (.deferred (some []))) • I k) • G) = _
      ac_rfl
    have HW1 := HW.of_eq e1
    have hl := HW1.get.2
    have hlen := (hbody (w.heap.size + 1) k hk vs A hE _ W (HW1.of_eq (show _ = (A • I k • dA (w.heap.size + 1) (.loop (pR .ready none)) • dA w.heap.size (.deferred (some [])) • G) by ac_rfl))).1
    refine ⟨fn, _, assign, body, run_yield hl (by rw [List.size_toArray, hlen]; exact List.size_toArray.symm), ?_⟩
    have hfit : Fits ⟨N.n, [], some (w.heap.size + 1)⟩ (Ns ps vs L) { tmps := (ps.toArray.zip vs.toArray).foldl (fun tmps (t, a) => tmps.setIfInBounds t a) a.tmps, defers := [] } := by
      have := Kw (n := N.n) (l := w.heap.size + 1) ps vs L a.tmps (fun p hp => by simpa using List.all_eq_true.1 hps p hp) ⟨ha.size, rfl, ha.at_⟩
      simpa using this
    refine roundIn_of_wpIn trivial ?_
    have HW2 : aB w0 W (A • I k • dA (w.heap.size + 1) (.loop (pR .ready none)) • dA w.heap.size (.deferred (some [])) • G) := HW1.of_eq (by ac_rfl)
    have hb := (hbody (w.heap.size + 1) k hk vs A hE _ W HW2).2 (fun c a w h => h) _ hfit
    refine wpIn_mono hb ?_
    rintro e a1 W1 hq
    cases e with
    | exit id => exact hq.elim
    | goto l => exact hq.elim
    | ret => exact hq.elim
    | panic c => exact hq.elim
    | outgrown => exact hq.elim
    | normal =>
      obtain ⟨L1, B, hf1, HB, hgo⟩ := hq
      have HB1 : aB w0 W1 (dA (w.heap.size + 1) (.loop (pR .ready none)) • B • dA w.heap.size (.deferred (some [])) • G) := HB.of_eq (by ac_rfl)
      have hl1 := HB1.get.2
      refine ⟨_, run_beginRound hl1 rfl, ?_⟩
      have HB2 : aB w0 (W1.putObj (w.heap.size + 1) (.loop (pR .busy none))) (dA (w.heap.size + 1) (.loop (pR .busy none)) • B • dA w.heap.size (.deferred (some [])) • G) := HB1.turn rfl rfl rfl (by simp) (World.putObj_heap_same HB1.lt) fun k hk _ => World.putObj_heap_other hk
      have hbd := hgo (dA (w.heap.size + 1) (.loop (pR .busy none)) • dA w.heap.size (.deferred (some [])) • G) _ (HB2.of_eq (by ac_rfl)) SE a1 hf1
      refine wpIn_mono hbd ?_
      have fin : ∀ (j : Option Code) (W3 : World) (A3 : HP), aB w0 W3 (A3 • dA (w.heap.size + 1) (.loop (pR .busy none)) • dA w.heap.size (.deferred (some [])) • G) →
          (Instr.endRound (w.heap.size + 1) j).run P W3 = .ok (.bool j.isNone) (W3.putObj (w.heap.size + 1) (.loop (pR (if j.isNone then .ready else .done) j))) ∧
          aB w0 (W3.putObj (w.heap.size + 1) (.loop (pR (if j.isNone then .ready else .done) j))) ((Lk (if j.isNone then .ready else .done) j • A3) • G) := by
        intro j W3 A3 H3
        have H4 := H3.swap
        refine ⟨run_endRound j H4.get.2, ?_⟩
        have H5 : aB w0 (W3.putObj (w.heap.size + 1) (.loop (pR (if j.isNone then .ready else .done) j))) (dA (w.heap.size + 1) (.loop (pR (if j.isNone then .ready else .done) j)) • A3 • dA w.heap.size (.deferred (some [])) • G) := H4.turn rfl rfl rfl (by simp) (World.putObj_heap_same H4.lt) fun k hk _ => World.putObj_heap_other hk
        refine H5.of_eq ?_
        show _ = (((dA (w.heap.size + 1) (.loop (pR (if j.isNone then .ready else .done) j)) • dA w.heap.size (.deferred (some []))) • A3) • G)
        ac_rfl
      rintro e a3 W3 hp
      cases e with
      | normal => obtain ⟨h1, h2⟩ := fin none W3 _ hp; exact ⟨_, _, h1, _, rfl, .inl ⟨rfl, h2⟩⟩
      | ret => obtain ⟨h1, h2⟩ := fin (some .ret) W3 _ hp; exact ⟨_, _, h1, _, rfl, .inr ⟨rfl, aB.iF .ret h2⟩⟩
      | exit id => obtain ⟨h1, h2⟩ := fin (some (.exit id)) W3 _ hp; exact ⟨_, _, h1, _, rfl, .inr ⟨rfl, aB.iF (.exit id) h2⟩⟩
      | goto l => exact hp.elim
      | panic c => exact hp.elim
      | outgrown => exact hp.elim
  have hcall := hit (w.heap.size + 1) (fun k => Lk .ready none • I k) _ _ Xp (H1.of_eq (by
    show _ = (((dA (w.heap.size + 1) (.loop (pR .ready none)) • dA w.heap.size (.deferred (some []))) • I 0) • R)
    ac_rfl))
  obtain ⟨f, first, cap, fn', c, rfl, hf, hn, hb, Zf⟩ := hcall
  refine ⟨w.heap.size + 1, _, _, { target := .fn (.func f) cap.toArray, args := (first ++ [Value.func (.yield (w.heap.size + 1)) #[] #[]]).toArray }, (w.alloc (.deferred (some []))).alloc (.loop (pR .ready none)), f, _, (w.alloc (.deferred (some []))).alloc (.loop (pR .ready none)), aaB, ?_, fun _ _ => trivial, ?_, (fun h => by cases h), QX.2 (Calls.mono Zf ?_)⟩
  · have he := ha.ev hg
    have he2 : a.eval (.const (.func (.yield (w.heap.size + 1)) #[] #[])) = .func (.yield (w.heap.size + 1)) #[] #[] := rfl
    simp [resolve, rangeCall, he, he2, Deferred.ofValue, pR]
  · simp [invoke, callFunc, hf, hb]
    simpa using hn
  · rintro e W2 ⟨v, rfl, hv⟩
    have fin : ∀ (s : LoopState) (j : Option Code) (A : HP), s ≠ .busy → aB w0 W2 ((Lk s j • A) • R) → (Instr.endLoop (w.heap.size + 1)).run P W2 = .ok j (W2.putObj (w.heap.size + 1) (.loop (pR .exhausted j))) ∧
        aB w0 (W2.putObj (w.heap.size + 1) (.loop (pR .exhausted j))) (dA w.heap.size (.deferred (some [])) • A • R) := by
      intro s j A hs H3
      have H4 : aB w0 W2 (dA (w.heap.size + 1) (.loop (pR s j)) • dA w.heap.size (.deferred (some [])) • A • R) := H3.of_eq (by
        show (((dA (w.heap.size + 1) (.loop (pR s j)) • dA w.heap.size (.deferred (some []))) • A) • R) = _
        ac_rfl)
      refine ⟨run_endLoop H4.get.2 hs, ?_⟩
      have H5 : aB w0 (W2.putObj (w.heap.size + 1) (.loop (pR .exhausted j))) (dA (w.heap.size + 1) (.loop (pR .exhausted j)) • dA w.heap.size (.deferred (some [])) • A • R) := H4.turn rfl rfl rfl (by simp) (World.putObj_heap_same H4.lt) fun k hk _ => World.putObj_heap_other hk
      exact H5.right
    have hfit : Fits ⟨N.n, w.heap.size :: N.ds, none⟩ L { a with defers := [{ target := .collected w.heap.size, args := #[] }] ++ a.defers } := ⟨ha.size, by simp [ha.defers, QW], ha.at_⟩
    rcases hv with hv | hv
    · obtain ⟨h1, h2⟩ := fin _ _ _ (by decide) hv
      exact ⟨none, _, h1, hdone _ _ h2 np _ hfit⟩
    · obtain ⟨c, hv⟩ := hv.oh
      obtain ⟨h1, h2⟩ := fin _ _ _ (by decide) hv
      cases c with
      | ret => exact ⟨some .ret, _, h1, wpIn_ret (hret _ _ h2 np _ hfit)⟩
      | exit id => exact ⟨some (.exit id), _, h1, wpIn_exit (Ze id _ _ h2 np _ hfit)⟩
      | _ => exact absurd h2.swap.fact.1 id
end
end Go.Proofs.YtgmpclifphbjkaaGreatDoor
end
section
namespace Go.Proofs.YtgmpclifphbjkaaGreatDoor
open Go.RowKit
open _root_.Go.Proofs.Tryz
def jL (G : List (List eH)) (N : List eH) : List (List eH) := if N = [] then G else G ++ [N]
theorem Nu {G : List (List eH)} {N : List eH} (h : N = []) : jL G N = G := by unfold jL; rw [if_pos h]
theorem oM {G : List (List eH)} {N : List eH} (h : N ≠ []) : jL G N = G ++ [N] := by unfold jL; rw [if_neg h]
theorem EI {G : List (List eH)} {N : List eH} : dX (jL G N) [] = dX G N := by
  unfold jL; split
  · rename_i h; rw [h]
  · simp [dX]
section
variable {w0 w : World} {F : HP} {p : Nat} {G : List (List eH)} {N : List eH} {op : Int} {gv nv v : Value} {gs : List (Value × List dH)} {now es : List dH} {a : Int} {d z : Value} {dl il : List Int}
theorem yu (H : aB w0 w (fH p G N op • F)) : fQ prog 128 #[.pointer (some ⟨p, 0, none⟩)] w fun _ w' => aB w0 w' (fH p (jL G N) [] 0 • F) := by
 refine gX func128 ntmps128 ?_
 dsimp only [bg, Nat.reduceAdd]
 refine ay (ay ?_)
 obtain ⟨xI, uO, kF, jJ, jl, qp, oO, BU, BX, Gm, lX⟩ := (H).rW
 refine ah (aO rfl (bH rfl (aZ 0 underlying171 rfl sizeOf169 rfl (aZ 1 underlying169 rfl sizeOf64 rfl (cO underlying64 rfl (lX).get.2 rfl (aU (fB ((lX.f4).aT) underlying64 rfl) (aU (dQ rfl rfl) (aA (aj (aH rfl (fun h1 => ?_) (fun h1 => ?_)))))))))))
 ·(try simp only [aG] at h1)
  have Zg : 0 < jJ.length := by omega
  have Nv := lX.drew
  have kS := aB.kp (Nv.f5.f5.f5.f5.f5)
  refine uH [5, 10] kS rfl (fU 0 rfl kS rfl (fU 1 rfl kS rfl (iT 2 rfl kS rfl (dP 3 rfl kS 0 underlying171 rfl sizeOf169 rfl (dP 4 rfl kS 0 underlying169 rfl sizeOf167 rfl (gQ 5 rfl kS (fun W hW => iI underlying167 rfl ((Kp.h hW)).get.2 rfl) (fU 6 rfl kS rfl (iT 7 rfl kS rfl (dP 8 rfl kS 0 underlying171 rfl sizeOf169 rfl (dP 9 rfl kS 1 underlying169 rfl sizeOf64 rfl (gQ 10 rfl kS (fun W hW => iI underlying64 rfl ((Kp.h hW)).get.2 rfl) (jH 11 rfl (lQ (vs := [_]) Nv underlying167 sizeOf64 zeroValue64 rfl rfl rfl (by decide) (aC (by first | rfl | exact Rd.one ((Nv.f4).aT)) bn)) ?_))))))))))))
  rintro l2 w2 H2
  have Ky := aB.kp (H2.f6.f6.f6.f6.f6.f6)
  refine bW Ky (fun W hW => (Kp.h hW).right.f5.f5.f5.f5.f5) ?_
  refine jH 12 rfl (fK H2.f3 underlying167 (show (prog.info? 64).map (fun i => (i.zero, i.size, i.bytes)) = some (some (.slice none 0 0), 1, 24) by kernel_rfl) rfl rfl rfl ((H2).aT) (aC (by first | rfl | exact Rd.one ((H2.f5).aT)) bn) (by omega) (by omega)) ?_
  rintro l3 w3 H3
  have Hd4 := H3.f2.right
  have jd := aB.kp (Hd4.f5.f5.f5.f5.f5)
  refine fA jd (by kernel_rfl) ?_
  refine iT 13 rfl jd rfl (dP 14 rfl jd 0 underlying171 rfl sizeOf169 rfl (dP 15 rfl jd 0 underlying169 rfl sizeOf167 rfl ?_))
  refine dB 16 rfl (by kernel_rfl) (aN 0 (l' := [_, _, _, _, _]) Hd4.f2 sizeOf167 rfl rfl (by first | rfl | exact Rd.one ((Hd4).aT)) rfl rfl) ?_
  rintro _ w5 H5
  have zQ := aB.kp (H5.f5.f5.f5.f5.f5)
  refine fA zQ (by kernel_rfl) ?_
  refine mg (aj (ah (aO rfl (aO rfl (bH rfl (aZ 0 underlying171 rfl sizeOf169 rfl (aZ 1 underlying169 rfl sizeOf64 rfl (aI (aN 1 (l' := [_, _, _, _, _]) H5 sizeOf64 rfl rfl (by first | rfl | assumption) rfl rfl) ?_))))))))
  rintro _ w6 H6
  refine bH rfl (aZ 0 underlying171 rfl sizeOf169 rfl (aZ 2 underlying169 rfl sizeOf3 rfl (aI (aN 2 (l' := [_, _, _, _, _]) H6 sizeOf3 rfl rfl (by first | rfl | assumption) rfl rfl) ?_)))
  rintro _ w7 H7
  refine aA (dN (.inr rfl) results128 ?_)
  have hN : N ≠ [] := by rintro rfl; exact absurd BX (by simp only [List.length_nil]; omega)
  rw [oM hN]
  have X := aB.tH (v := uO) (es := jJ) (H7.f3.f3.f5.f5).deep
  have X4 := aB.vS X.swap
  refine aB.qW (gv := l3) (nv := .slice none 0 0) (gs := kF ++ [(uO, jJ)]) (now := []) (ed := (dX G N : Nat)) ⟨OA jl.1 hN, by rw [← oM hN, EI]; exact jl.2.1, by decide, by decide, Kr jl.2.2.2.2.1 jl.2.2.2.2.2, by simp⟩ (by rw [List.map_append, qp, ← oO]; rfl) rfl (by rw [← oM hN, EI]) ((X4.qL none).of_eq (by ac_rfl))
 ·(try simp only [aG] at h1)
  have Zg : jJ.length = 0 := by omega
  refine aS (aj (ah (aO rfl (aO rfl (bH rfl (aZ 0 underlying171 rfl sizeOf169 rfl (aZ 1 underlying169 rfl sizeOf64 rfl (aI (aN 1 (l' := [_, _, _, _, _]) lX sizeOf64 rfl rfl (by first | rfl | assumption) rfl rfl) ?_))))))))
  rintro _ w8 H8
  refine bH rfl (aZ 0 underlying171 rfl sizeOf169 rfl (aZ 2 underlying169 rfl sizeOf3 rfl (aI (aN 2 (l' := [_, _, _, _, _]) H8 sizeOf3 rfl rfl (by first | rfl | assumption) rfl rfl) ?_)))
  rintro _ w9 H9
  refine aA (dN (.inr rfl) results128 ?_)
  have hN : N = [] := by rw [← oO, List.eq_nil_of_length_eq_zero Zg]; rfl
  subst hN
  rw [Nu rfl]
  refine aB.qW (gv := xI) (nv := .slice none 0 0) (gs := kF) (now := []) (ed := (dX G [] : Nat)) ⟨jl.1, jl.2.1, by decide, by decide, jl.2.2.2.2⟩ qp rfl rfl (((H9.f4.right.f4.right.f3.f3).qL none).of_eq (by unfold AV; ac_rfl))
theorem aB.Jd (H : aB w0 w (BG v es • F)) : aB w0 w (BG v es • BG v es • F) := H.DY
theorem Qg (b : Nat) : Iter prog w0 (.func (.func 196) #[] #[.pointer (some ⟨b, 0, none⟩)]) (dA b (.cells #[v] 64 (0, 0)) • BG v es) es.length
  (fun k vs A => vs = [.int .i64 ((es.length - (k + 1) : Nat) : Int), .agg (es.getD (es.length - (k + 1)) default).enc.toArray] ∧ A = BG v es) := by
 intro l J X w hy H
 refine ⟨196, [], [.pointer (some ⟨b, 0, none⟩)], _, _, rfl, func196, rfl, rfl, ?_⟩
 have H1 : aB w0 w (dA b (.cells #[v] 64 (0, 0)) • BG v es • J 0) := H.of_eq (by ac_rfl)
 obtain ⟨a, c, hv, hc1, hc2, _⟩ := (H1.swap.zT).form
 subst hv
 simp only [List.nil_append, List.cons_append]
 refine gX func196 ntmps196 ?_
 dsimp only [bg, Nat.reduceAdd]
 refine ay (ah (cO underlying64 rfl (H1).get.2 rfl (aU (fB ((H1.f2).zT) underlying64 rfl) (aU (jB rfl rfl (by omega)) (aV rfl (aA (aj (bf ?_))))))))
 refine fM [(0, _), (1, _)] (fun (k : Nat) => [(3, .int .i64 ((k : Int) - 1))]) (fun (k : Nat) W => k ≤ es.length ∧ aB w0 W (dA b (.cells #[.slice a es.length c] 64 (0, 0)) • BG (.slice a es.length c) es • J (es.length - k))) (fun (k : Nat) => k) (es.length) (Sub.cons rfl (Sub.cons rfl (Sub.nil _))) (Sub.cons rfl (Sub.nil _)) ⟨by omega, by rw [Nat.sub_self]; exact H1⟩ ?_
 rintro k w1 ⟨hk, HL⟩
 dsimp only [List.cons_append, List.nil_append]
 refine ay (ay (ah (aO rfl (aU (D7 rfl rfl) (aA (aj (aH rfl (fun h1 => ?_) (fun h1 => ?_))))))))
 ·(try simp only [aG] at h1)
  try (exfalso; first | contradiction | omega)
  all_goals
   refine aS (aj (ay (bf (ay ?_))))
   obtain ⟨m, rfl⟩ : ∃ m, k = m + 1 := ⟨k - 1, by omega⟩
   rw [show (((m + 1 : Nat) : Int) - 1) = (m : Int) from by omega]
   refine ah (aO rfl (aO rfl (cO underlying64 rfl (HL).get.2 rfl (aO rfl ?_))))
   obtain ⟨bv, ov, cv, ev⟩ := Rd.rG ((HL.f2).zT) (by omega)
   cases ev
   refine aU (eF underlying64 sizeOf120 rfl rfl (by omega)) (aU (gY (ys := [_, _, _]) ((HL.f2).zT) (by omega) underlying120 rfl sizeOf120 rfl (iQ dH.pI (by omega) default) rfl) (iy (Jc rfl rfl (hy (es.length - (m + 1)) (by omega) _ _ ⟨by rw [show es.length - (es.length - (m + 1) + 1) = m from by omega]; rfl, rfl⟩ (BG (.slice (some ⟨bv, ov, none⟩) es.length c) es • dA b (.cells #[.slice (some ⟨bv, ov, none⟩) es.length c] 64 (0, 0))) _ (HL.swap.Jd.of_eq (by ac_rfl))).bool) ?_))
   rintro _ w2 ⟨t, rfl, ht1, ht2⟩
   refine aU (kM rfl) (aA (aj (aH rfl (fun h2 => ?_) (fun h2 => ?_))))
   ·(try simp only [aG] at h2)
    try (exfalso; first | contradiction | omega)
    all_goals
     have HX := ht2 (by simpa using h2)
     refine aJ (aW (aK (aK (aW (dN (.inl rfl) results196 ?_)))))
     exact .inr (HX.of_eq (by ac_rfl))
   ·(try simp only [aG] at h2)
    try (exfalso; first | contradiction | omega)
    all_goals
     have HN : aB w0 w2 (dA b (.cells #[.slice (some ⟨bv, ov, none⟩) es.length c] 64 (0, 0)) • BG (.slice (some ⟨bv, ov, none⟩) es.length c) es • J (es.length - m)) := by
      have h9 := ht1 (by simpa using h2)
      rw [show es.length - (m + 1) + 1 = es.length - m from by omega] at h9
      exact h9.of_eq (by ac_rfl)
     refine aS (aQ (aj (ah (aO rfl (aU (jB rfl rfl (by omega)) (aV rfl (aA ?_)))))))
     refine dK (m) ?_ ?_ ?_ ?_
     ·exact (Sub.cons rfl (Sub.nil _))
     ·exact (Sub.cons rfl (Sub.cons rfl (Sub.nil _)))
     ·(try dsimp only)
      first | done | exact ⟨by omega, HN.f2.f2⟩
     ·(try dsimp only); omega
 ·(try simp only [aG] at h1)
  try (exfalso; first | contradiction | omega)
  all_goals
   refine fG (aX (aX (bM (dN (.inr rfl) results196 ?_))))
   obtain rfl : k = 0 := by omega
   rw [Nat.sub_zero] at HL
   exact .inl (HL.of_eq (by ac_rfl))
end
end Go.Proofs.YtgmpclifphbjkaaGreatDoor
end
section
namespace Go.Proofs.YtgmpclifphbjkaaGreatDoor
open Go.RowKit
open _root_.Go.Proofs.Tryz
def rJ (e : eH) : eH := (e.1, e.2.2, e.2.1)
def SG (c : Nat) (es : List dH) (k : Nat) : HP := sS fun (x : Value × List dH) => fact (x.2.map dH.says = ((es.map dH.says).reverse.take k).map rJ) • dA c (.cells #[x.1] 64 (0, 0)) • Gl x.1 x.2
theorem SH {es : List dH} {k : Nat} (hk : k < es.length) : ((es.map dH.says).reverse.take (k + 1)).map rJ = ((es.map dH.says).reverse.take k).map rJ ++ [rJ (es.getD (es.length - (k + 1)) default).says] := by
  rw [List.take_succ_eq_append_getElem (by simpa using hk), List.map_append]
  congr 1
  simp only [List.map_cons, List.map_nil, List.getElem_reverse, List.getElem_map, List.length_map]
  rw [List.getD_eq_getElem?_getD, List.getElem?_eq_getElem (by omega)]
  have e : es.length - 1 - k = es.length - (k + 1) := by omega
  simp only [Option.getD_some, e]
section
variable {w0 w : World} {F : HP} {p : Nat} {G : List (List eH)} {N : List eH} {op : Int} {gv nv v : Value} {gs : List (Value × List dH)} {now es : List dH} {a : Int} {d z : Value} {dl il : List Int}
theorem aB.Kz {c k : Nat} (H : aB w0 w (SG c es k • F)) : ∃ u fs, fs.map dH.says = ((es.map dH.says).reverse.take k).map rJ ∧ fs.length ≤ es.length ∧ aB w0 w (dA c (.cells #[u] 64 (0, 0)) • Row 120 3 u fs.length (fs.flatMap dH.enc) • jT fs • F) := by
  obtain ⟨⟨u, fs⟩, H⟩ := H.oh
  obtain ⟨h, H⟩ := H.flat.fact
  refine ⟨u, fs, h, ?_, ?_⟩
  · have := congrArg List.length h
    simp at this
    omega
  · have := H.flat
    unfold Gl at this
    exact this.of_eq (by ac_rfl)
theorem aB.SI {c k : Nat} {u : Value} {fs : List dH} (h : fs.map dH.says = ((es.map dH.says).reverse.take k).map rJ) (H : aB w0 w (dA c (.cells #[u] 64 (0, 0)) • Gl u fs • F)) : aB w0 w (SG c es k • F) :=
  aB.iF (u, fs) (aB.deep (aB.kJ h H.deep))
theorem aB.Xq (H : aB w0 w (BG v es • F)) {k : Nat} (hk : k < es.length) : aB w0 w (Dt .i32 (es.getD k default).d (es.getD k default).dl • Dt .i32 (es.getD k default).i (es.getD k default).il • BG v es • F) := by
  have h1 : aB w0 w (Dt .i32 (es.getD k default).d (es.getD k default).dl • BG v es • BG v es • F) := H.Jd.Jd.DF (pq (fun I h => (h.2 k hk).1) _)
  have h2 : aB w0 w (Dt .i32 (es.getD k default).i (es.getD k default).il • Dt .i32 (es.getD k default).d (es.getD k default).dl • BG v es • F) := h1.swap.DF (pq (fun I h => (h.2 k hk).2) _)
  exact h2.swap
theorem SK (H : aB w0 w F) (hv : v.oneCell' = true) : fQ prog 172 #[v] w fun v' w' => ∃ b, v' = .func (.func 196) #[] #[.pointer (some ⟨b, 0, none⟩)] ∧ aB w0 w' (dA b (.cells #[v] 64 (0, 0)) • F) := by
 refine gX func172 ntmps172 ?_
 dsimp only [bg, Nat.reduceAdd]
 refine ay (ah (iy (iq (l := [_]) H rfl (by first | rfl | exact BM (by first | rfl | assumption))) ?_))
 rintro _ w1 ⟨b1, rfl, H1⟩
 refine aV rfl (aA (aj (ay (ah (aU (zH rfl rfl) (aV rfl (aA (aj (aJ (aP (.inl rfl) results172 rfl ?_))))))))))
 exact ⟨_, rfl, H1⟩
theorem AY (H : aB w0 w (BG v es • F)) (hB : ∀ k, k < es.length → EB (es.getD k default).says) (hL : es.length ≤ 16384) :
  fQ prog 129 #[v] w fun v' w' => ∃ fs : List dH, fs.map dH.says = (es.map dH.says).reverse.map rJ ∧ aB w0 w' (Row 120 3 v' fs.length (fs.flatMap dH.enc) • jT fs • BG v es • F) := by
 refine gX func129 ntmps129 ?_
 dsimp only [bg, Nat.reduceAdd]
 refine ay (ah (aV rfl (aA (aj (ay (ah (iy (dI (l := [_]) H zeroValue64 rfl) ?_)))))))
 rintro _ w1 ⟨b1, rfl, H1⟩
 refine aA (aj (ay (ay (ah (aO rfl (dw rfl func172 (SK H1 (Rd.one ((H1.f2).zT))) ?_))))))
 rintro _ w2 ⟨bB2, rfl, H2⟩
 refine aA (aj (bf ?_))
 have Ho3 := H2.f2
 have Hc4 := aB.SI (es := es) (k := 0) (fs := []) rfl (Ho3.qL none).swap
 refine wH rfl (Qg bB2) (fun k => SG b1 es k • F) (fact False) (fun _ => fact False) (Hc4.f3.f3.f3.f3.f3.g2.comm) (by rfl) ?_ ?_ ?_ ?_
 ·rintro l5 k Xt vs5 A5 ⟨rfl, rfl⟩ G5 w5 H5
  try simp only [bV, kH, rZ] at H5
  refine ⟨rfl, ?_⟩
  dsimp only [Ns]
  have Hq := (H5).Xq (k := es.length - (k + 1)) (by omega)
  obtain ⟨hb1, hb2⟩ := hB (es.length - (k + 1)) (by omega)
  have hb1 : (es.getD (es.length - (k + 1)) default).dl.length ≤ 35184372087808 := hb1
  have hb2 : (es.getD (es.length - (k + 1)) default).il.length ≤ 35184372087808 := hb2
  obtain ⟨u, fs, hfs, hfl, HI⟩ := (Hq.f4).Kz
  refine ah (iy (dI (l := [_, _, _]) HI zeroValue120 rfl) ?_)
  rintro _ w6 ⟨b6, rfl, H6⟩
  refine aI (bJ 0 (l' := [_, _, _]) (us := [_, _, _]) H6 sizeOf120 rfl rfl rfl (aC (by first | rfl | assumption) (aC (by first | rfl | exact Rd.one ((H6.f5).zM)) (aC (by first | rfl | exact Rd.one ((H6.f6).zM)) bn))) rfl rfl) ?_
  rintro _ w7 H7
  refine aA ?_
  refine Nr (H7.g8) ?_
  intro G8 w8 H8
  try simp only [bV] at H8
  refine bf ?_
  have Zh := H8.drew
  have SL := aB.kp (Zh.f7.f7.f7.f7.f7.f7.f7)
  refine uH [0, 1] SL rfl (gQ 0 rfl SL (fun W hW => iI underlying64 rfl ((Kp.h hW).f2).get.2 rfl) (gQ 1 rfl SL (fun W hW => bU underlying120 rfl sizeOf120 rfl rfl ((Kp.h hW)).get.2) (jH 2 rfl (rU rfl func173 (BR Zh (fun W HW => (HW.f5).zM) (fun W HW => (HW.f6).zM) (by omega) (by omega))) ?_)))
  rintro _ w9 ⟨d9, s9, rfl, H9⟩
  have Sv := aB.kp (H9.f9.f9.f9.f9.f9.f9.f9.f9.f9)
  refine bW Sv (fun W hW => (Kp.h hW).right.right.f7.f7.f7.f7.f7.f7.f7) ?_
  refine jH 3 rfl (oL H9 underlying64 sizeOf120 zeroValue120 rfl rfl rfl (by decide) (by decide)) ?_
  rintro l10 w10 oP
  have SN := aB.kp (oP.f10.f10.f10.f10.f10.f10.f10.f10.f10.f10)
  refine bW SN (fun W hW => (Kp.h hW).right.f9.f9.f9.f9.f9.f9.f9.f9.f9) ?_
  refine jH 4 rfl (fK oP.f6 underlying64 (show (prog.info? 120).map (fun i => (i.zero, i.size, i.bytes)) = some (some (.agg #[.int .i64 0, .slice none 0 0, .slice none 0 0]), 3, 56) by kernel_rfl) rfl rfl rfl ((oP).aT) (aC (by first | rfl | assumption) (aC (by first | rfl | exact Rd.one ((oP.f2).aT)) (aC (by first | rfl | exact Rd.one ((oP.f3).aT)) bn))) (by omega) (by omega)) ?_
  rintro l11 FT uV
  have Gn := uV.f2.right
  have ED := aB.kp (Gn.f9.f9.f9.f9.f9.f9.f9.f9.f9)
  refine fA ED (by kernel_rfl) ?_
  refine dB 5 rfl (by kernel_rfl) (aN 0 (l' := [_]) Gn.f5 sizeOf64 rfl rfl (by first | rfl | exact Rd.one ((Gn).aT)) rfl rfl) ?_
  rintro _ MB vZ
  have EF := aB.kp (vZ.f9.f9.f9.f9.f9.f9.f9.f9.f9)
  refine fA EF (by kernel_rfl) ?_
  refine mg (aQ ?_)
  refine EH ?_
  have X := (vZ.f5.right.f6.right.f6.right.f6.right.f6.f2.f6.f4.f6.f6).kT.swap.kT.swap
  have X2 := aB.vP X.f3
  exact (aB.SI (es := es) (k := k + 1) (by rw [List.map_append, hfs, SH (by omega)]; rfl) X2.swap).deep
 ·rintro D14 JE uX
  have J8 := uX.ed
  try simp only [bV, kH, rZ] at J8
  have Xu := J8.Ol
  obtain ⟨u, fs, hfs, hfl, HI⟩ := (Xu.f4).Kz
  refine aQ (aj (ay (ah (cO underlying64 rfl (HI).get.2 rfl (aV rfl (aA (aj (aJ ?_))))))))
  refine DJ (.inl rfl) (HI.f4) (fun P8 yQ => ?_)
  refine ⟨_, WY results129 rfl, ?_⟩
  rw [List.take_of_length_le (by simp)] at hfs
  exact ⟨_, hfs, yQ.right.f3.right.f3.f3.f3⟩
 ·rintro D w H; exact absurd H.swap.fact.1 id
 ·rintro id D w H; exact absurd H.swap.fact.1 fun h => h
end
end Go.Proofs.YtgmpclifphbjkaaGreatDoor
end
