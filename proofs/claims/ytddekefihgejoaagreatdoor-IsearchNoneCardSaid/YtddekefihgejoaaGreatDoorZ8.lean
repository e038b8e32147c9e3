import Derived.Test.YtddekefihgejoaaGreatDoorZ2
import Derived.Test.YtddekefihgejoaaGreatDoorZ4
import Derived.Test.YtddekefihgejoaaGreatDoorZ7
set_option linter.unusedSimpArgs false
set_option linter.unusedVariables false
/- Texts of mine, joined, their names in short: Range UList2 UList3 UList4 UList5 UList6 UList7 Grp0. -/
section
namespace Go.Proofs.YtddekefihgejoaaGreatDoor
open Go.RowKit
def Gm (P : Program) (l : Nat) (vs : List Value) (w : World) (T : Value → World → Prop) : Prop :=
  ∃ f tmps c d, (Instr.yield l vs.toArray).run P w = .ok (.round l f tmps c d) w ∧ RoundIn Fence.wide 0 P l f tmps c d w fun e w' => ∃ v, e = .returned v ∧ T v w'
theorem Gm.mono {P : Program} {l : Nat} {vs : List Value} {w : World} {T T' : Value → World → Prop} (h : Gm P l vs w T) (k : ∀ v w', T v w' → T' v w') : Gm P l vs w T' :=
  let ⟨f, tmps, c, d, h1, h2⟩ := h; ⟨f, tmps, c, d, h1, RoundIn.mono h2 fun _ _ ⟨v, e, t⟩ => ⟨v, e, k _ _ t⟩⟩
theorem Gm.bool {P : Program} {l : Nat} {vs : List Value} {w : World} {A B : World → Prop} (h : Gm P l vs w fun v W' => (v = .bool true ∧ A W') ∨ (v = .bool false ∧ B W')) : Gm P l vs w fun v W' => ∃ t, v = .bool t ∧ (t = true → A W') ∧ (t = false → B W') :=
  h.mono fun v W' hv => by
    rcases hv with ⟨rfl, h⟩ | ⟨rfl, h⟩
    · exact ⟨true, rfl, fun _ => h, fun e => by cases e⟩
    · exact ⟨false, rfl, (fun e => by cases e), fun _ => h⟩
theorem BU {P : Program} {L : List (Nat × Value)} {w : World} {ty : TypeId} {x : Operand} {args : List Operand} {ts : Array TypeId} {l : Nat} {vs : List Value} {T : Value → World → Prop} (hx : ev L x = some (.func (.yield l) #[] #[])) (ha : zG L args = some vs) (h : Gm P l vs w T) :
    rH P L (.call ⟨.value x, args.toArray, ts⟩) ty w T := by
  obtain ⟨f, tmps, c, d, hy, hr⟩ := h
  refine SI (fun ρ hρ dd pos lC g => ?_) hr
  have hg := hρ _ _ hx
  simp [execOp, resolve, invoke, WV hρ _ _ ha, hg, Deferred.ofValue, hy]
def Iter (P : Program) (w0 : World) (fv : Value) (R : HP) (n : Nat) (E : Nat → List Value → HP → Prop) : Prop :=
  ∀ (l : Nat) (J : Nat → HP) (X : HP) (w : World),
    (∀ k, k < n → ∀ vs A, E k vs A → ∀ G W, aB w0 W (A • J k • G) → Gm P l vs W fun v W' => (v = .bool true ∧ aB w0 W' (J (k + 1) • G)) ∨ (v = .bool false ∧ aB w0 W' (X • G))) →
    aB w0 w (J 0 • R) → UC P fv [.func (.yield l) #[] #[]] w fun _ W' => aB w0 W' (J n • R) ∨ aB w0 W' (X • R)
def IX (w0 : World) (I : HP) (Xr : HP) (Xe : Nat → HP) (G : HP) : Exit → Act → World → Prop
  | .normal, _, W => aB w0 W (I • G)
  | .ret, _, W => aB w0 W (Xr • G)
  | .exit id, _, W => aB w0 W (Xe id • G)
  | _, _, _ => False
def MG (P : Program) (N : Sh) (w0 : World) (body : Code) (I : HP) (Xr : HP) (Xe : Nat → HP) (G : HP) (a : Act) (W : World) : Prop :=
  ∃ (L : List (Nat × Value)) (B : HP), Fits N L a ∧ aB w0 W (B • G) ∧ ∀ G' W', aB w0 W' (B • G') → WC P N body (IX w0 I Xr Xe G') L W'
def Qi : Exit → Act → World → Prop := fun _ _ _ => False
theorem Gn {P : Program} {N : Sh} {w0 w : World} {body : Code} {I Xr : HP} {Xe : Nat → HP} {G B : HP} {L : List (Nat × Value)} (H : aB w0 w (B • G)) (h : ∀ G' W', aB w0 W' (B • G') → WC P N body (IX w0 I Xr Xe G') L W') :
    WQ N (Exit.then (MG P N w0 body I Xr Xe G) Qi) .normal L w := fun _ a ha => ⟨L, B, ha, H, h⟩
theorem xW {N : Sh} {w0 w : World} {I Xr : HP} {Xe : Nat → HP} {G : HP} {L : List (Nat × Value)} (H : aB w0 w (I • G)) : WQ N (IX w0 I Xr Xe G) .normal L w := fun _ _ _ => H
theorem Qj {N : Sh} {w0 w : World} {I Xr : HP} {Xe : Nat → HP} {G : HP} {id : Nat} {L : List (Nat × Value)} (H : aB w0 w (Xe id • G)) : WQ N (IX w0 I Xr Xe G) (.exit id) L w := fun _ _ _ => H
theorem Qk {w0 : World} {I Xr : HP} {Xe : Nat → HP} {G : HP} : NP (IX w0 I Xr Xe G) := fun _ _ _ h => h
def IY : List Nat → List Value → List (Nat × Value) → List (Nat × Value)
  | [], _, L => L
  | _ :: _, [], L => L
  | p :: ps, v :: vs, L => IY ps vs ((p, v) :: L)
theorem IZ {n l : Nat} : ∀ (ps : List Nat) (vs : List Value) (L : List (Nat × Value)) (tmps : Array Value), (∀ p ∈ ps, p < n) → Fits ⟨n, [], some l⟩ L { tmps := tmps, defers := [] } →
    Fits ⟨n, [], some l⟩ (IY ps vs L) { tmps := (ps.zip vs).foldl (fun t (p : Nat × Value) => t.setIfInBounds p.1 p.2) tmps, defers := [] }
  | [], _, _, _, _, h => h
  | _ :: _, [], _, _, _, h => h
  | p :: ps, v :: vs, L, tmps, hp, h => IZ ps vs _ _ (fun q hq => hp q (by simp [hq])) (h.put (hp p (by simp)) v)
section
variable {P : Program} {N : Sh} {Q : Exit → Act → World → Prop} {L : List (Nat × Value)} {w0 w : World}
theorem qc {g : Operand} {ps : List Nat} {assign body : Code} {fv : Value} {R : HP} {n : Nat} {E : Nat → List Value → HP → Prop} (hg : ev L g = some fv) (hit : Iter P w0 fv R n E) (I : Nat → HP) (Xr : HP) (Xe : Nat → HP) (H : aB w0 w (I 0 • R))
    (hps : ps.all (· < N.n) = true)
    (hbody : ∀ l k, k < n → ∀ vs A, E k vs A → ∀ G W, aB w0 W (A • I k • G) → vs.length = ps.length ∧ WC P ⟨N.n, [], some l⟩ assign (Exit.then (MG P ⟨N.n, [], some l⟩ w0 body (I (k + 1)) Xr Xe G) Qi) (IY ps vs L) W)
    (hdone : ∀ D W, aB w0 W (bY D (.deferred (some [])) • I n • R) → WQ ⟨N.n, D :: N.ds, none⟩ Q .normal L W)
    (hret : ∀ D W, aB w0 W (bY D (.deferred (some [])) • Xr • R) → WQ ⟨N.n, D :: N.ds, none⟩ Q .ret L W)
    (XE : ∀ id D W, aB w0 W (bY D (.deferred (some [])) • Xe id • R) → WQ ⟨N.n, D :: N.ds, none⟩ Q (.exit id) L W)
    (hro : N.ro = none := by rfl) : WC P N (.rangeFunc g ps.toArray assign body) Q L w := fun np a ha => by
  rw [hro]
  refine wpIn_rangeFunc fun fn _ => ?_
  let nX : LoopState → Option Code → Loop := fun s j => { state := s, pending := j, fn, tmps := a.tmps, params := ps.toArray, assign, body, defers := w.heap.size }
  have Zq := run_enterLoop_outer (P := P) (w := w) fn a.tmps ps.toArray assign body
  have H1 : aB w0 ((w.alloc (.deferred (some []))).alloc (.loop (nX .ready none))) (bY (w.heap.size + 1) (.loop (nX .ready none)) • bY w.heap.size (.deferred (some [])) • I 0 • R) := by
    have := (H.alloc (.deferred (some []))).alloc (.loop (nX .ready none))
    rw [World.size_alloc] at this
    exact this
  let Lk : LoopState → Option Code → HP := fun s j => bY (w.heap.size + 1) (.loop (nX s j)) • bY w.heap.size (.deferred (some []))
  have Vt : ∀ k, k < n → ∀ vs A, E k vs A → ∀ G W, aB w0 W (A • (Lk .ready none • I k) • G) → Gm P (w.heap.size + 1) vs W fun v W' => (v = .bool true ∧ aB w0 W' ((Lk .ready none • I (k + 1)) • G)) ∨
      (v = .bool false ∧ aB w0 W' (qJ (fun c : Code => Lk .done (some c) • (match c with | .ret => Xr | .exit id => Xe id | _ => fact False)) • G)) := by
    intro k hk vs A hE G W HW
    have e1 : (A • (Lk .ready none • I k) • G) = (bY (w.heap.size + 1) (.loop (nX .ready none)) • A • I k • bY w.heap.size (.deferred (some [])) • G) := by
      show (A • ((bY (w.heap.size + 1) (.loop (nX .ready none)) • bY w.heap.size (.deferred (some []))) • I k) • G) = _
      ac_rfl
    have HW1 := HW.of_eq e1
    have hl := HW1.get.2
    have hlen := (hbody (w.heap.size + 1) k hk vs A hE _ W (HW1.of_eq (show _ = (A • I k • bY (w.heap.size + 1) (.loop (nX .ready none)) • bY w.heap.size (.deferred (some [])) • G) by ac_rfl))).1
    refine ⟨fn, _, assign, body, run_yield hl (by rw [List.size_toArray, hlen]; exact List.size_toArray.symm), ?_⟩
    have hfit : Fits ⟨N.n, [], some (w.heap.size + 1)⟩ (IY ps vs L) { tmps := (ps.toArray.zip vs.toArray).foldl (fun tmps (t, a) => tmps.setIfInBounds t a) a.tmps, defers := [] } := by
      have := IZ (n := N.n) (l := w.heap.size + 1) ps vs L a.tmps (fun p hp => by simpa using List.all_eq_true.1 hps p hp) ⟨ha.size, rfl, ha.at_⟩
      simpa using this
    refine roundIn_of_wpIn trivial ?_
    have HW2 : aB w0 W (A • I k • bY (w.heap.size + 1) (.loop (nX .ready none)) • bY w.heap.size (.deferred (some [])) • G) := HW1.of_eq (by ac_rfl)
    have hb := (hbody (w.heap.size + 1) k hk vs A hE _ W HW2).2 (fun c a w h => h) _ hfit
    refine wpIn_mono hb ?_
    rintro e a1 W1 hq
    cases e with
    | exit id => exact hq.elim
    | goto l => exact hq.elim
    | ret => exact hq.elim
    | panic c => exact hq.elim
    | outgrown => exact hq.elim
    | normal =>
      obtain ⟨L1, B, hf1, HB, hgo⟩ := hq
      have HB1 : aB w0 W1 (bY (w.heap.size + 1) (.loop (nX .ready none)) • B • bY w.heap.size (.deferred (some [])) • G) := HB.of_eq (by ac_rfl)
      have hl1 := HB1.get.2
      refine ⟨_, run_beginRound hl1 rfl, ?_⟩
      have HB2 : aB w0 (W1.putObj (w.heap.size + 1) (.loop (nX .busy none))) (bY (w.heap.size + 1) (.loop (nX .busy none)) • B • bY w.heap.size (.deferred (some [])) • G) := HB1.turn rfl rfl rfl (by simp) (World.putObj_heap_same HB1.lt) fun k hk _ => World.putObj_heap_other hk
      have hbd := hgo (bY (w.heap.size + 1) (.loop (nX .busy none)) • bY w.heap.size (.deferred (some [])) • G) _ (HB2.of_eq (by ac_rfl)) Qk a1 hf1
      refine wpIn_mono hbd ?_
      have fin : ∀ (j : Option Code) (W3 : World) (A3 : HP), aB w0 W3 (A3 • bY (w.heap.size + 1) (.loop (nX .busy none)) • bY w.heap.size (.deferred (some [])) • G) →
          (Instr.endRound (w.heap.size + 1) j).run P W3 = .ok (.bool j.isNone) (W3.putObj (w.heap.size + 1) (.loop (nX (if j.isNone then .ready else .done) j))) ∧
          aB w0 (W3.putObj (w.heap.size + 1) (.loop (nX (if j.isNone then .ready else .done) j))) ((Lk (if j.isNone then .ready else .done) j • A3) • G) := by
        intro j W3 A3 H3
        have H4 := H3.swap
        refine ⟨run_endRound j H4.get.2, ?_⟩
        have H5 : aB w0 (W3.putObj (w.heap.size + 1) (.loop (nX (if j.isNone then .ready else .done) j))) (bY (w.heap.size + 1) (.loop (nX (if j.isNone then .ready else .done) j)) • A3 • bY w.heap.size (.deferred (some [])) • G) := H4.turn rfl rfl rfl (by simp) (World.putObj_heap_same H4.lt) fun k hk _ => World.putObj_heap_other hk
        refine H5.of_eq ?_
        show _ = (((bY (w.heap.size + 1) (.loop (nX (if j.isNone then .ready else .done) j)) • bY w.heap.size (.deferred (some []))) • A3) • G)
        ac_rfl
      rintro e a3 W3 hp
      cases e with
      | normal => obtain ⟨h1, h2⟩ := fin none W3 _ hp; exact ⟨_, _, h1, _, rfl, .inl ⟨rfl, h2⟩⟩
      | ret => obtain ⟨h1, h2⟩ := fin (some .ret) W3 _ hp; exact ⟨_, _, h1, _, rfl, .inr ⟨rfl, aB.gJ .ret h2⟩⟩
      | exit id => obtain ⟨h1, h2⟩ := fin (some (.exit id)) W3 _ hp; exact ⟨_, _, h1, _, rfl, .inr ⟨rfl, aB.gJ (.exit id) h2⟩⟩
      | goto l => exact hp.elim
      | panic c => exact hp.elim
      | outgrown => exact hp.elim
  have hcall := hit (w.heap.size + 1) (fun k => Lk .ready none • I k) _ _ Vt (H1.of_eq (by
    show _ = (((bY (w.heap.size + 1) (.loop (nX .ready none)) • bY w.heap.size (.deferred (some []))) • I 0) • R)
    ac_rfl))
  obtain ⟨f, first, cap, fn', c, rfl, hf, hn, hb, XF⟩ := hcall
  refine ⟨w.heap.size + 1, _, _, { target := .fn (.func f) cap.toArray, args := (first ++ [Value.func (.yield (w.heap.size + 1)) #[] #[]]).toArray }, (w.alloc (.deferred (some []))).alloc (.loop (nX .ready none)), f, _, (w.alloc (.deferred (some []))).alloc (.loop (nX .ready none)), Zq, ?_, fun _ _ => trivial, ?_, (fun h => by cases h), Pg.2 (Calls.mono XF ?_)⟩
  · have he := ha.ev hg
    have he2 : a.eval (.const (.func (.yield (w.heap.size + 1)) #[] #[])) = .func (.yield (w.heap.size + 1)) #[] #[] := rfl
    simp [resolve, rangeCall, he, he2, Deferred.ofValue, nX]
  · simp [invoke, callFunc, hf, hb]
    simpa using hn
  · rintro e W2 ⟨v, rfl, hv⟩
    have fin : ∀ (s : LoopState) (j : Option Code) (A : HP), s ≠ .busy → aB w0 W2 ((Lk s j • A) • R) → (Instr.endLoop (w.heap.size + 1)).run P W2 = .ok j (W2.putObj (w.heap.size + 1) (.loop (nX .exhausted j))) ∧
        aB w0 (W2.putObj (w.heap.size + 1) (.loop (nX .exhausted j))) (bY w.heap.size (.deferred (some [])) • A • R) := by
      intro s j A hs H3
      have H4 : aB w0 W2 (bY (w.heap.size + 1) (.loop (nX s j)) • bY w.heap.size (.deferred (some [])) • A • R) := H3.of_eq (by
        show (((bY (w.heap.size + 1) (.loop (nX s j)) • bY w.heap.size (.deferred (some []))) • A) • R) = _
        ac_rfl)
      refine ⟨run_endLoop H4.get.2 hs, ?_⟩
      have H5 : aB w0 (W2.putObj (w.heap.size + 1) (.loop (nX .exhausted j))) (bY (w.heap.size + 1) (.loop (nX .exhausted j)) • bY w.heap.size (.deferred (some [])) • A • R) := H4.turn rfl rfl rfl (by simp) (World.putObj_heap_same H4.lt) fun k hk _ => World.putObj_heap_other hk
      exact H5.right
    have hfit : Fits ⟨N.n, w.heap.size :: N.ds, none⟩ L { a with defers := [{ target := .collected w.heap.size, args := #[] }] ++ a.defers } := ⟨ha.size, by simp [ha.defers, Pe], ha.at_⟩
    rcases hv with hv | hv
    · obtain ⟨h1, h2⟩ := fin _ _ _ (by decide) hv
      exact ⟨none, _, h1, hdone _ _ h2 np _ hfit⟩
    · obtain ⟨c, hv⟩ := hv.lg
      obtain ⟨h1, h2⟩ := fin _ _ _ (by decide) hv
      cases c with
      | ret => exact ⟨some .ret, _, h1, wpIn_ret (hret _ _ h2 np _ hfit)⟩
      | exit id => exact ⟨some (.exit id), _, h1, wpIn_exit (XE id _ _ h2 np _ hfit)⟩
      | _ => exact absurd h2.swap.fact.1 id
end
end Go.Proofs.YtddekefihgejoaaGreatDoor
end
section
namespace Go.Proofs.YtddekefihgejoaaGreatDoor
open Go.RowKit
open _root_.Go.Proofs.Tryz
def ji (G : List (List fB)) (N : List fB) : List (List fB) := if N = [] then G else G ++ [N]
theorem KG {G : List (List fB)} {N : List fB} (h : N = []) : ji G N = G := by unfold ji; rw [if_pos h]
theorem lW {G : List (List fB)} {N : List fB} (h : N ≠ []) : ji G N = G ++ [N] := by unfold ji; rw [if_neg h]
theorem Dx {G : List (List fB)} {N : List fB} : eH (ji G N) [] = eH G N := by
  unfold ji; split
  · rename_i h; rw [h]
  · simp [eH]
section
variable {w0 w : World} {F : HP} {p : Nat} {G : List (List fB)} {N : List fB} {op : Int} {gv nv v : Value} {gs : List (Value × List dn)} {now es : List dn} {a : Int} {d z : Value} {dl il : List Int}
theorem wF (H : aB w0 w (dV p G N op • F)) : fE prog 166 #[.pointer (some ⟨p, 0, none⟩)] w fun _ w' => aB w0 w' (dV p (ji G N) [] 0 • F) := by
 refine gy func166 ntmps166 ?_
 dsimp only [aY, Nat.reduceAdd]
 refine ay (ay ?_)
 obtain ⟨vU, sV, jv, jc, iI, oz, mg, zT, zU, ED, kH⟩ := (H).pU
 refine ah (aN rfl (bP rfl (bg 0 underlying233 rfl sizeOf231 rfl (bg 1 underlying231 rfl sizeOf67 rfl (dO underlying67 rfl (kH).get.2 rfl (aU (fM ((kH.f4).aO) underlying67 rfl) (aU (fZ rfl rfl) (aA (aj (aP rfl (fun h1 => ?_) (fun h1 => ?_)))))))))))
 ·(try simp only [aI] at h1)
  have XG : 0 < jc.length := by omega
  have Og := kH.drew
  have iM := aB.kp (Og.f5.f5.f5.f5.f5)
  refine vV [5, 10] iM rfl (gQ 0 rfl iM rfl (gQ 1 rfl iM rfl (iQ 2 rfl iM rfl (dR 3 rfl iM 0 underlying233 rfl sizeOf231 rfl (dR 4 rfl iM 0 underlying231 rfl sizeOf180 rfl (gY 5 rfl iM (fun W hW => iH underlying180 rfl ((Kp.h hW)).get.2 rfl) (gQ 6 rfl iM rfl (iQ 7 rfl iM rfl (dR 8 rfl iM 0 underlying233 rfl sizeOf231 rfl (dR 9 rfl iM 1 underlying231 rfl sizeOf67 rfl (gY 10 rfl iM (fun W hW => iH underlying67 rfl ((Kp.h hW)).get.2 rfl) (jk 11 rfl (iK (vs := [_]) Og underlying180 sizeOf67 zeroValue67 rfl rfl rfl (by decide) (aC (by first | rfl | exact Rd.one ((Og.f4).aO)) aZ)) ?_))))))))))))
  rintro l2 w2 H2
  have y5 := aB.kp (H2.f6.f6.f6.f6.f6.f6)
  refine bT y5 (fun W hW => (Kp.h hW).right.f5.f5.f5.f5.f5) ?_
  refine jk 12 rfl (fF H2.f3 underlying180 (show (prog.info? 67).map (fun i => (i.zero, i.size, i.bytes)) = some (some (.slice none 0 0), 1, 24) by kernel_rfl) rfl rfl rfl ((H2).aO) (aC (by first | rfl | exact Rd.one ((H2.f5).aO)) aZ) (by omega) (by omega)) ?_
  rintro l3 w3 H3
  have Zr := H3.f2.right
  have uj := aB.kp (Zr.f5.f5.f5.f5.f5)
  refine dN uj (by kernel_rfl) ?_
  refine iQ 13 rfl uj rfl (dR 14 rfl uj 0 underlying233 rfl sizeOf231 rfl (dR 15 rfl uj 0 underlying231 rfl sizeOf180 rfl ?_))
  refine dJ 16 rfl (by kernel_rfl) (aS 0 (l' := [_, _, _, _, _]) Zr.f2 sizeOf180 rfl rfl (by first | rfl | exact Rd.one ((Zr).aO)) rfl rfl) ?_
  rintro _ w5 H5
  have uq := aB.kp (H5.f5.f5.f5.f5.f5)
  refine dN uq (by kernel_rfl) ?_
  refine nT (aj (ah (aN rfl (aN rfl (bP rfl (bg 0 underlying233 rfl sizeOf231 rfl (bg 1 underlying231 rfl sizeOf67 rfl (aG (aS 1 (l' := [_, _, _, _, _]) H5 sizeOf67 rfl rfl (by first | rfl | assumption) rfl rfl) ?_))))))))
  rintro _ w6 H6
  refine bP rfl (bg 0 underlying233 rfl sizeOf231 rfl (bg 2 underlying231 rfl sizeOf3 rfl (aG (aS 2 (l' := [_, _, _, _, _]) H6 sizeOf3 rfl rfl (by first | rfl | assumption) rfl rfl) ?_)))
  rintro _ w7 H7
  refine aA (fU (.inr rfl) results166 ?_)
  have hN : N ≠ [] := by rintro rfl; exact absurd zU (by simp only [List.length_nil]; omega)
  rw [lW hN]
  have X := aB.ru (v := sV) (es := jc) (H7.f3.f3.f5.f5).deep
  have X4 := aB.uo X.swap
  refine aB.oZ (gv := l3) (nv := .slice none 0 0) (gs := jv ++ [(sV, jc)]) (now := []) (ed := (eH G N : Nat)) ⟨MC iI.1 hN, by rw [← lW hN, Dx]; exact iI.2.1, by decide, by decide, IQ iI.2.2.2.2.1 iI.2.2.2.2.2, by simp⟩ (by rw [List.map_append, oz, ← mg]; rfl) rfl (by rw [← lW hN, Dx]) ((X4.oM none).of_eq (by ac_rfl))
 ·(try simp only [aI] at h1)
  have XG : jc.length = 0 := by omega
  refine aT (aj (ah (aN rfl (aN rfl (bP rfl (bg 0 underlying233 rfl sizeOf231 rfl (bg 1 underlying231 rfl sizeOf67 rfl (aG (aS 1 (l' := [_, _, _, _, _]) kH sizeOf67 rfl rfl (by first | rfl | assumption) rfl rfl) ?_))))))))
  rintro _ w8 H8
  refine bP rfl (bg 0 underlying233 rfl sizeOf231 rfl (bg 2 underlying231 rfl sizeOf3 rfl (aG (aS 2 (l' := [_, _, _, _, _]) H8 sizeOf3 rfl rfl (by first | rfl | assumption) rfl rfl) ?_)))
  rintro _ w9 H9
  refine aA (fU (.inr rfl) results166 ?_)
  have hN : N = [] := by rw [← mg, List.eq_nil_of_length_eq_zero XG]; rfl
  subst hN
  rw [KG rfl]
  refine aB.oZ (gv := vU) (nv := .slice none 0 0) (gs := jv) (now := []) (ed := (eH G [] : Nat)) ⟨iI.1, iI.2.1, by decide, by decide, iI.2.2.2.2⟩ oz rfl rfl (((H9.f4.right.f4.right.f3.f3).oM none).of_eq (by unfold yV; ac_rfl))
theorem aB.Gp (H : aB w0 w (zC v es • F)) : aB w0 w (zC v es • zC v es • F) := H.yG
theorem Oh (b : Nat) : Iter prog w0 (.func (.func 182) #[] #[.pointer (some ⟨b, 0, none⟩)]) (bY b (.cells #[v] 67 (0, 0)) • zC v es) es.length
  (fun k vs A => vs = [.int .i64 ((es.length - (k + 1) : Nat) : Int), .agg (es.getD (es.length - (k + 1)) default).enc.toArray] ∧ A = zC v es) := by
 intro l J X w hy H
 refine ⟨182, [], [.pointer (some ⟨b, 0, none⟩)], _, _, rfl, func182, rfl, rfl, ?_⟩
 have H1 : aB w0 w (bY b (.cells #[v] 67 (0, 0)) • zC v es • J 0) := H.of_eq (by ac_rfl)
 obtain ⟨a, c, hv, hc1, hc2, _⟩ := (H1.swap.xU).form
 subst hv
 simp only [List.nil_append, List.cons_append]
 refine gy func182 ntmps182 ?_
 dsimp only [aY, Nat.reduceAdd]
 refine ay (ah (dO underlying67 rfl (H1).get.2 rfl (aU (fM ((H1.f2).xU) underlying67 rfl) (aU (iW rfl rfl (by omega)) (aV rfl (aA (aj (bf ?_))))))))
 refine fH [(0, _), (1, _)] (fun (k : Nat) => [(3, .int .i64 ((k : Int) - 1))]) (fun (k : Nat) W => k ≤ es.length ∧ aB w0 W (bY b (.cells #[.slice a es.length c] 67 (0, 0)) • zC (.slice a es.length c) es • J (es.length - k))) (fun (k : Nat) => k) (es.length) (Sub.cons rfl (Sub.cons rfl (Sub.nil _))) (Sub.cons rfl (Sub.nil _)) ⟨by omega, by rw [Nat.sub_self]; exact H1⟩ ?_
 rintro k w1 ⟨hk, HL⟩
 dsimp only [List.cons_append, List.nil_append]
 refine ay (ay (ah (aN rfl (aU (vY rfl rfl) (aA (aj (aP rfl (fun h1 => ?_) (fun h1 => ?_))))))))
 ·(try simp only [aI] at h1)
  try (exfalso; first | contradiction | omega)
  all_goals
   refine aT (aj (ay (bf (ay ?_))))
   obtain ⟨m, rfl⟩ : ∃ m, k = m + 1 := ⟨k - 1, by omega⟩
   rw [show (((m + 1 : Nat) : Int) - 1) = (m : Int) from by omega]
   refine ah (aN rfl (aN rfl (dO underlying67 rfl (HL).get.2 rfl (aN rfl ?_))))
   obtain ⟨bv, ov, cv, ev⟩ := Rd.lD ((HL.f2).xU) (by omega)
   cases ev
   refine aU (cZ underlying67 sizeOf202 rfl rfl (by omega)) (aU (iR (ys := [_, _, _]) ((HL.f2).xU) (by omega) underlying202 rfl sizeOf202 rfl (jY dn.yT (by omega) default) rfl) (gq (BU rfl rfl (hy (es.length - (m + 1)) (by omega) _ _ ⟨by rw [show es.length - (es.length - (m + 1) + 1) = m from by omega]; rfl, rfl⟩ (zC (.slice (some ⟨bv, ov, none⟩) es.length c) es • bY b (.cells #[.slice (some ⟨bv, ov, none⟩) es.length c] 67 (0, 0))) _ (HL.swap.Gp.of_eq (by ac_rfl))).bool) ?_))
   rintro _ w2 ⟨t, rfl, ht1, ht2⟩
   refine aU (kJ rfl) (aA (aj (aP rfl (fun h2 => ?_) (fun h2 => ?_))))
   ·(try simp only [aI] at h2)
    try (exfalso; first | contradiction | omega)
    all_goals
     have HX := ht2 (by simpa using h2)
     refine aJ (aX (aK (aK (aX (fU (.inl rfl) results182 ?_)))))
     exact .inr (HX.of_eq (by ac_rfl))
   ·(try simp only [aI] at h2)
    try (exfalso; first | contradiction | omega)
    all_goals
     have HN : aB w0 w2 (bY b (.cells #[.slice (some ⟨bv, ov, none⟩) es.length c] 67 (0, 0)) • zC (.slice (some ⟨bv, ov, none⟩) es.length c) es • J (es.length - m)) := by
      have h9 := ht1 (by simpa using h2)
      rw [show es.length - (m + 1) + 1 = es.length - m from by omega] at h9
      exact h9.of_eq (by ac_rfl)
     refine aT (aH (aj (ah (aN rfl (aU (iW rfl rfl (by omega)) (aV rfl (aA ?_)))))))
     refine dA (m) ?_ ?_ ?_ ?_
     ·exact (Sub.cons rfl (Sub.nil _))
     ·exact (Sub.cons rfl (Sub.cons rfl (Sub.nil _)))
     ·(try dsimp only)
      first | done | exact ⟨by omega, HN.f2.f2⟩
     ·(try dsimp only); omega
 ·(try simp only [aI] at h1)
  try (exfalso; first | contradiction | omega)
  all_goals
   refine dL (aW (aW (bD (fU (.inr rfl) results182 ?_))))
   obtain rfl : k = 0 := by omega
   rw [Nat.sub_zero] at HL
   exact .inl (HL.of_eq (by ac_rfl))
end
end Go.Proofs.YtddekefihgejoaaGreatDoor
end
section
namespace Go.Proofs.YtddekefihgejoaaGreatDoor
open Go.RowKit
open _root_.Go.Proofs.Tryz
def Dy (e : fB) : fB := (e.1, e.2.2, e.2.1)
def Ql (c : Nat) (es : List dn) (k : Nat) : HP := qJ fun (x : Value × List dn) => fact (x.2.map dn.says = ((es.map dn.says).reverse.take k).map Dy) • bY c (.cells #[x.1] 67 (0, 0)) • EC x.1 x.2
theorem Qm {es : List dn} {k : Nat} (hk : k < es.length) : ((es.map dn.says).reverse.take (k + 1)).map Dy = ((es.map dn.says).reverse.take k).map Dy ++ [Dy (es.getD (es.length - (k + 1)) default).says] := by
  rw [List.take_succ_eq_append_getElem (by simpa using hk), List.map_append]
  congr 1
  simp only [List.map_cons, List.map_nil, List.getElem_reverse, List.getElem_map, List.length_map]
  rw [List.getD_eq_getElem?_getD, List.getElem?_eq_getElem (by omega)]
  have e : es.length - 1 - k = es.length - (k + 1) := by omega
  simp only [Option.getD_some, e]
section
variable {w0 w : World} {F : HP} {p : Nat} {G : List (List fB)} {N : List fB} {op : Int} {gv nv v : Value} {gs : List (Value × List dn)} {now es : List dn} {a : Int} {d z : Value} {dl il : List Int}
theorem aB.I4 {c k : Nat} (H : aB w0 w (Ql c es k • F)) : ∃ u fs, fs.map dn.says = ((es.map dn.says).reverse.take k).map Dy ∧ fs.length ≤ es.length ∧ aB w0 w (bY c (.cells #[u] 67 (0, 0)) • Row 202 3 u fs.length (fs.flatMap dn.enc) • jh fs • F) := by
  obtain ⟨⟨u, fs⟩, H⟩ := H.lg
  obtain ⟨h, H⟩ := H.flat.fact
  refine ⟨u, fs, h, ?_, ?_⟩
  · have := congrArg List.length h
    simp at this
    omega
  · have := H.flat
    unfold EC at this
    exact this.of_eq (by ac_rfl)
theorem aB.Qn {c k : Nat} {u : Value} {fs : List dn} (h : fs.map dn.says = ((es.map dn.says).reverse.take k).map Dy) (H : aB w0 w (bY c (.cells #[u] 67 (0, 0)) • EC u fs • F)) : aB w0 w (Ql c es k • F) :=
  aB.gJ (u, fs) (aB.deep (aB.jL h H.deep))
theorem aB.Vu (H : aB w0 w (zC v es • F)) {k : Nat} (hk : k < es.length) : aB w0 w (pz .i32 (es.getD k default).d (es.getD k default).dl • pz .i32 (es.getD k default).i (es.getD k default).il • zC v es • F) := by
  have h1 : aB w0 w (pz .i32 (es.getD k default).d (es.getD k default).dl • zC v es • zC v es • F) := H.Gp.Gp.Ep (qR (fun I h => (h.2 k hk).1) _)
  have h2 : aB w0 w (pz .i32 (es.getD k default).i (es.getD k default).il • pz .i32 (es.getD k default).d (es.getD k default).dl • zC v es • F) := h1.swap.Ep (qR (fun I h => (h.2 k hk).2) _)
  exact h2.swap
theorem Qo (H : aB w0 w F) (hv : v.oneCell' = true) : fE prog 177 #[v] w fun v' w' => ∃ b, v' = .func (.func 182) #[] #[.pointer (some ⟨b, 0, none⟩)] ∧ aB w0 w' (bY b (.cells #[v] 67 (0, 0)) • F) := by
 refine gy func177 ntmps177 ?_
 dsimp only [aY, Nat.reduceAdd]
 refine ay (ah (gq (iw (l := [_]) H rfl (by first | rfl | exact tK (by first | rfl | assumption))) ?_))
 rintro _ w1 ⟨b1, rfl, H1⟩
 refine aV rfl (aA (aj (ay (ah (aU (qN rfl rfl) (aV rfl (aA (aj (aJ (aQ (.inl rfl) results177 rfl ?_))))))))))
 exact ⟨_, rfl, H1⟩
theorem y7 (H : aB w0 w (zC v es • F)) (hB : ∀ k, k < es.length → EB (es.getD k default).says) (hL : es.length ≤ 16384) :
  fE prog 167 #[v] w fun v' w' => ∃ fs : List dn, fs.map dn.says = (es.map dn.says).reverse.map Dy ∧ aB w0 w' (Row 202 3 v' fs.length (fs.flatMap dn.enc) • jh fs • zC v es • F) := by
 refine gy func167 ntmps167 ?_
 dsimp only [aY, Nat.reduceAdd]
 refine ay (ah (aV rfl (aA (aj (ay (ah (gq (bU (l := [_]) H zeroValue67 rfl) ?_)))))))
 rintro _ w1 ⟨b1, rfl, H1⟩
 refine aA (aj (ay (ay (ah (aN rfl (dw rfl func177 (Qo H1 (Rd.one ((H1.f2).xU))) ?_))))))
 rintro _ w2 ⟨bB2, rfl, H2⟩
 refine aA (aj (bf ?_))
 have Zt := H2.f2
 have Zu := aB.Qn (es := es) (k := 0) (fs := []) rfl (Zt.oM none).swap
 refine qc rfl (Oh bB2) (fun k => Ql b1 es k • F) (fact False) (fun _ => fact False) (Zu.f3.f3.f3.f3.f3.g2.comm) (by rfl) ?_ ?_ ?_ ?_
 ·rintro l5 k TI vs5 A5 ⟨rfl, rfl⟩ G5 w5 H5
  try simp only [bH, jd, mZ] at H5
  refine ⟨rfl, ?_⟩
  dsimp only [IY]
  have Hq := (H5).Vu (k := es.length - (k + 1)) (by omega)
  obtain ⟨hb1, hb2⟩ := hB (es.length - (k + 1)) (by omega)
  have hb1 : (es.getD (es.length - (k + 1)) default).dl.length ≤ 35184372087808 := hb1
  have hb2 : (es.getD (es.length - (k + 1)) default).il.length ≤ 35184372087808 := hb2
  obtain ⟨u, fs, hfs, hfl, HI⟩ := (Hq.f4).I4
  refine ah (gq (bU (l := [_, _, _]) HI zeroValue202 rfl) ?_)
  rintro _ w6 ⟨b6, rfl, H6⟩
  refine aG (bn 0 (l' := [_, _, _]) (us := [_, _, _]) H6 sizeOf202 rfl rfl rfl (aC (by first | rfl | assumption) (aC (by first | rfl | exact Rd.one ((H6.f5).jE)) (aC (by first | rfl | exact Rd.one ((H6.f6).jE)) aZ))) rfl rfl) ?_
  rintro _ w7 H7
  refine aA ?_
  refine Gn (H7.g8) ?_
  intro G8 w8 H8
  try simp only [bH] at H8
  refine bf ?_
  have XH := H8.drew
  have Qp := aB.kp (XH.f7.f7.f7.f7.f7.f7.f7)
  refine vV [0, 1] Qp rfl (gY 0 rfl Qp (fun W hW => iH underlying67 rfl ((Kp.h hW).f2).get.2 rfl) (gY 1 rfl Qp (fun W hW => bQ underlying202 rfl sizeOf202 rfl rfl ((Kp.h hW)).get.2) (jk 2 rfl (rP rfl func178 (zS XH (fun W HW => (HW.f5).jE) (fun W HW => (HW.f6).jE) (by omega) (by omega))) ?_)))
  rintro _ w9 ⟨d9, s9, rfl, H9⟩
  have Qg := aB.kp (H9.f9.f9.f9.f9.f9.f9.f9.f9.f9)
  refine bT Qg (fun W hW => (Kp.h hW).right.right.f7.f7.f7.f7.f7.f7.f7) ?_
  refine jk 3 rfl (lV H9 underlying67 sizeOf202 zeroValue202 rfl rfl rfl (by decide) (by decide)) ?_
  rintro l10 w10 qH
  have Qq := aB.kp (qH.f10.f10.f10.f10.f10.f10.f10.f10.f10.f10)
  refine bT Qq (fun W hW => (Kp.h hW).right.f9.f9.f9.f9.f9.f9.f9.f9.f9) ?_
  refine jk 4 rfl (fF qH.f6 underlying67 (show (prog.info? 202).map (fun i => (i.zero, i.size, i.bytes)) = some (some (.agg #[.int .i64 0, .slice none 0 0, .slice none 0 0]), 3, 56) by kernel_rfl) rfl rfl rfl ((qH).aO) (aC (by first | rfl | assumption) (aC (by first | rfl | exact Rd.one ((qH.f2).aO)) (aC (by first | rfl | exact Rd.one ((qH.f3).aO)) aZ))) (by omega) (by omega)) ?_
  rintro XI Hr uQ
  have EF := uQ.f2.right
  have yY := aB.kp (EF.f9.f9.f9.f9.f9.f9.f9.f9.f9)
  refine dN yY (by kernel_rfl) ?_
  refine dJ 5 rfl (by kernel_rfl) (aS 0 (l' := [_]) EF.f5 sizeOf67 rfl rfl (by first | rfl | exact Rd.one ((EF).aO)) rfl rfl) ?_
  rintro _ NY xC
  have Dw := aB.kp (xC.f9.f9.f9.f9.f9.f9.f9.f9.f9)
  refine dN Dw (by kernel_rfl) ?_
  refine nT (aH ?_)
  refine xW ?_
  have X := (xC.f5.right.f6.right.f6.right.f6.right.f6.f2.f6.f4.f6.f6).jo.swap.jo.swap
  have X2 := aB.um X.f3
  exact (aB.Qn (es := es) (k := k + 1) (by rw [List.map_append, hfs, Qm (by omega)]; rfl) X2.swap).deep
 ·rintro D14 NZ yB
  have Qr := yB.ed
  try simp only [bH, jd, mZ] at Qr
  have Vw := Qr.HY
  obtain ⟨u, fs, hfs, hfl, HI⟩ := (Vw.f4).I4
  refine aH (aj (ay (ah (dO underlying67 rfl (HI).get.2 rfl (aV rfl (aA (aj (aJ ?_))))))))
  refine yJ (.inl rfl) (HI.f4) (fun PY wC => ?_)
  refine ⟨_, SH results167 rfl, ?_⟩
  rw [List.take_of_length_le (by simp)] at hfs
  exact ⟨_, hfs, wC.right.f3.right.f3.f3.f3⟩
 ·rintro D w H; exact absurd H.swap.fact.1 id
 ·rintro id D w H; exact absurd H.swap.fact.1 fun h => h
end
end Go.Proofs.YtddekefihgejoaaGreatDoor
end
section
namespace Go.Proofs.YtddekefihgejoaaGreatDoor
open Go.RowKit
open _root_.Go.Proofs.Tryz
def Qs (G : List (List fB)) (N : List fB) : Int := if G.length + N.length = 0 then 6 else 0
def MH (G : List (List fB)) (N : List fB) : List (List fB) := if G.length + N.length = 0 then G else (ji G N).dropLast
def MI (G : List (List fB)) (N : List fB) : List fB := if G.length + N.length = 0 then N else []
def MJ (G : List (List fB)) (N : List fB) (op : Int) : Int := if G.length + N.length = 0 then op else 0
def UG (G : List (List fB)) (N : List fB) : List fB := if G.length + N.length = 0 then [] else ((ji G N).getLastD []).reverse.map Dy
theorem E5 {G : List (List fB)} {g N : List fB} : eH (G ++ [g]) N = eH G N + g.length := by simp [eH]; omega
section
variable {w0 w : World} {F : HP} {p : Nat} {G : List (List fB)} {N : List fB} {op : Int} {gv nv v : Value} {gs : List (Value × List dn)} {now es : List dn} {a : Int} {d z : Value} {dl il : List Int}
theorem KH (h : ¬ G.length + N.length = 0) : ji G N ≠ [] := by
  unfold ji; split
  · rename_i hN; rintro rfl; subst hN; exact h rfl
  · simp
theorem aB.KI (H : aB w0 w (dV p G [] op • F)) (hG : G ≠ []) : ∃ gv nv hs gl vw, G = hs.map (fun g => g.2.map dn.says) ++ [vw.map dn.says] ∧ TG G [] op ∧ G.length = hs.length + 1 ∧ hs.length ≤ 16384 ∧ vw.length ≤ 16384 ∧ (∀ k, k < vw.length → EB (vw.getD k default).says) ∧
    aB w0 w (bY p (.cells #[gv, nv, .int .i64 op, .int .i64 (eH G [] : Nat), .bool true] 233 (0, 0)) • Row 67 1 gv (hs.length + 1) (hs.map (·.1) ++ [gl]) • nM hs • zC gl vw • EC nv [] • F) := by
  obtain ⟨gv, nv, gs, now, h1, h2, h3, h4, h5, h6, H⟩ := H.pU
  obtain rfl : now = [] := List.eq_nil_of_length_eq_zero (by simpa using h5)
  rcases List.eq_nil_or_concat gs with rfl | ⟨hs, ⟨gl, vw⟩, rfl⟩
  · exact absurd h2.symm hG
  · have hG2 : G = hs.map (fun g => g.2.map dn.says) ++ [vw.map dn.says] := by rw [← h2]; simp
    have hle : vw.length ≤ 16384 := by
      have := h1.2.1
      rw [hG2, E5] at this
      simp at this
      omega
    refine ⟨gv, nv, hs, gl, vw, hG2, h1, ?_, ?_, hle, fun k hk => ?_, ?_⟩
    · rw [hG2]; simp
    · rw [hG2] at h6; simp at h6; omega
    · refine h1.2.2.2.2.1 (vw.map dn.says) (by rw [hG2]; simp) _ ?_
      rw [List.getD_eq_getElem?_getD, List.getElem?_eq_getElem hk]
      exact List.mem_map_of_mem (List.getElem_mem hk)
    · rw [List.concat_eq_append, List.length_append, List.map_append] at H
      have H1 := (H.f3.IK (k := hs.length) (by simp)).swap
      rw [show (hs ++ [(gl, vw)]).getD hs.length default = (gl, vw) from by simp [List.getD_eq_getElem?_getD]] at H1
      have H2 := H1.Qc hs.length
      rw [List.take_left' rfl] at H2
      exact H2.of_eq (by unfold EC; ac_rfl)
theorem xG (H : aB w0 w (dV p G N op • F)) : fE prog 131 #[.pointer (some ⟨p, 0, none⟩)] w fun v w' => ∃ u, ∃ fs : List dn, v = .tuple #[u, .int .i64 (Qs G N)] ∧ fs.map dn.says = UG G N ∧
  aB w0 w' (Row 202 3 u fs.length (fs.flatMap dn.enc) • jh fs • dV p (MH G N) (MI G N) (MJ G N op) • F) := by
 unfold Qs UG MH MI MJ
 refine gy func131 ntmps131 ?_
 dsimp only [aY, Nat.reduceAdd]
 refine ay (ah (aV rfl (aV rfl (aA (aj (ay (ay (ah (aN rfl (dw rfl func161 (iE H) ?_))))))))))
 rintro _ _ ⟨rfl, rfl⟩
 refine aA (aj (pJ (aT (aj (ay (ay ?_))))))
 obtain ⟨vU, sV, jv, jc, iI, oz, mg, zT, zU, ED, kH⟩ := (H).pU
 have zV := kH.drew
 have eX := aB.kp (zV.f5.f5.f5.f5.f5)
 refine vV [4, 10] eX rfl (gQ 0 rfl eX rfl (iQ 1 rfl eX rfl (dR 2 rfl eX 0 underlying233 rfl sizeOf231 rfl (dR 3 rfl eX 0 underlying231 rfl sizeOf180 rfl (gY 4 rfl eX (fun W hW => iH underlying180 rfl ((Kp.h hW)).get.2 rfl) (iJ 5 rfl eX (fun _ => fM ((zV.f2).aO) underlying180 rfl) (gQ 6 rfl eX rfl (iQ 7 rfl eX rfl (dR 8 rfl eX 0 underlying233 rfl sizeOf231 rfl (dR 9 rfl eX 1 underlying231 rfl sizeOf67 rfl (gY 10 rfl eX (fun W hW => iH underlying67 rfl ((Kp.h hW)).get.2 rfl) (iJ 11 rfl eX (fun _ => fM ((zV.f4).aO) underlying67 rfl) (iJ 12 rfl eX (fun _ => dS rfl rfl (by omega)) (iJ 13 rfl eX (fun _ => iY rfl rfl) (nT (aj (aP rfl (fun h1 => ?_) (fun h1 => ?_))))))))))))))))))
 ·(try simp only [aI] at h1)
  have YU : G.length + N.length = 0 := by omega
  have KC := zV.f5.f5.f5.f5.f5
  have KD := aB.jl iI oz mg rfl KC
  refine ay (ah (aV rfl (aV rfl (aA (aj (aJ (aK (fV (.inl rfl) results131 rfl rfl ?_))))))))
  simp only [if_pos YU]
  exact ⟨_, [], rfl, rfl, ((KD).oM none).Wx⟩
 ·(try simp only [aI] at h1)
  have YU : ¬ G.length + N.length = 0 := by omega
  have Qu := zV.f5.f5.f5.f5.f5
  have Oi := aB.jl iI oz mg rfl Qu
  refine aT (aj (ay (ah (aN rfl (dw rfl func166 (wF Oi) ?_)))))
  rintro _ w9 H9
  refine aA (aj (ay ?_))
  obtain ⟨gv, nv, hs, gl, vw, hG, hok, hl1, hl2, hl3, hEB, HU⟩ := (H9).KI (KH YU)
  have htot := hok.2.1
  refine ah (aN rfl (bP rfl (bg 0 underlying233 rfl sizeOf231 rfl (bg 0 underlying231 rfl sizeOf180 rfl (dO underlying180 rfl (HU).get.2 rfl (aU (fM ((HU.f2).aO) underlying180 rfl) (aU (iW rfl rfl (by omega)) (aV rfl (aA (aj (ay (ah (aN rfl (bP rfl (bg 0 underlying233 rfl sizeOf231 rfl (bg 0 underlying231 rfl sizeOf180 rfl (dO underlying180 rfl (HU).get.2 rfl (aN rfl ?_))))))))))))))))))
  obtain ⟨bgv, ogv, cgv, egv⟩ := Rd.lD ((HU.f2).aO) (by omega)
  cases egv
  refine aU (cZ underlying180 sizeOf67 rfl rfl (by omega)) ?_
  refine aU (fJ (bW underlying67 rfl) rfl (by first | exact Rd.pX ((HU.f2).aO) (by omega) | exact Rd.Es ((HU.f2).aO) (by omega) | exact Rd.CY ((HU.f2).aO) (by omega))) ?_
  rw [show (hs.map (·.1) ++ [gl]).getD ((((hs.length + 1 : Nat)) : Int) - 1).toNat undef = gl from by rw [show ((((hs.length + 1 : Nat)) : Int) - 1).toNat = hs.length from by omega]; simp [List.getD_eq_getElem?_getD]]
  refine aV rfl (aA (aj (ay (ah (aN rfl (aN rfl (bP rfl (bg 0 underlying233 rfl sizeOf231 rfl (bg 0 underlying231 rfl sizeOf180 rfl (dO underlying180 rfl (HU).get.2 rfl (aN rfl (aU (wz ((HU.f2).aO) underlying180 sizeOf67 rfl rfl rfl (by omega)) (bP rfl (bg 0 underlying233 rfl sizeOf231 rfl (bg 0 underlying231 rfl sizeOf180 rfl (aG (aS 0 (l' := [_, _, _, _, _]) HU sizeOf180 rfl rfl (by first | rfl | exact Rd.one (Rd.Xv ((HU.f2).aO) (by omega))) rfl rfl) ?_))))))))))))))))
  rintro _ w10 qH
  refine aA (aj (ay (ah (aN rfl (bP rfl (bg 0 underlying233 rfl sizeOf231 rfl (bg 3 underlying231 rfl sizeOf3 rfl (dO underlying3 rfl (qH).get.2 rfl (aN rfl (aU (fM ((qH.f4).xU) underlying67 rfl) (aU (iW rfl rfl (by omega)) (bP rfl (bg 0 underlying233 rfl sizeOf231 rfl (bg 3 underlying231 rfl sizeOf3 rfl (aG (aS 3 (l' := [_, _, _, _, _]) qH sizeOf3 rfl rfl (by first | rfl | assumption) rfl rfl) ?_)))))))))))))))
  rintro _ Hr uQ
  refine aA (aj (ay (ah (aN rfl (dw rfl func167 (y7 uQ.f4 hEB hl3) ?_)))))
  rintro Wn w12 ⟨Qv, UH, uf⟩
  refine aV rfl (aV rfl (aA (aj (aJ (fV (.inl rfl) results131 rfl rfl ?_)))))
  simp only [if_neg YU]
  have hdl : (ji G N).dropLast = hs.map (fun g => g.2.map dn.says) := by rw [hG]; simp
  have hlast : (ji G N).getLastD [] = vw.map dn.says := by rw [hG]; simp
  have hX := (uf.f3.right.f6.f6.f5.f5.f5.f6).Pq (h := hs.length) (by omega)
  rw [hdl, hlast]
  rw [Nat.mul_one, List.take_left' (by simp), show (((hs.length + 1 : Nat) : Int) - 1).toNat = hs.length from by omega, show Int.toNat 0 = 0 from rfl] at hX
  have hT : eH (ji G N) [] = eH (hs.map (fun g => g.2.map dn.says)) [] + vw.length := by rw [hG, E5, List.length_map]
  have hok2 : TG (hs.map (fun g => g.2.map dn.says)) [] 0 := ⟨fun g hg => hok.1 g (by rw [hG]; exact List.mem_append_left _ hg), by omega, by decide, by decide, fun g hg => hok.2.2.2.2.1 g (by rw [hG]; exact List.mem_append_left _ hg), by simp⟩
  refine ⟨_, _, rfl, (by assumption), ?_⟩
  have hU := aB.oZ (gv := nG 1 0 hs.length (.slice (some ⟨bgv, ogv, none⟩) (hs.length + 1) cgv)) (nv := nv) (gs := hs) (now := []) (ed := (eH (ji G N) [] : Nat) - (vw.length : Int)) (F := Row 202 3 Wn Qv.length (Qv.flatMap dn.enc) • jh Qv • F) hok2 rfl rfl (by omega) (hX.of_eq (by unfold yV; ac_rfl))
  exact hU.of_eq (by ac_rfl)
end
end Go.Proofs.YtddekefihgejoaaGreatDoor
end
section
namespace Go.Proofs.YtddekefihgejoaaGreatDoor
open Go.RowKit
open _root_.Go.Proofs.Tryz
def zW (op : Int) : Int := if op = 0 then 1 else 0
def Vx (G : List (List fB)) (N : List fB) (op : Int) : List (List fB) := if op = 1 then ji G N else G
def Vy (N : List fB) (op : Int) : List fB := if op = 1 then [] else N
def TJ (op : Int) : Int := if op = 0 then 0 else op - 1
theorem Oj {es : List dn} {k : Nat} (hk : k < es.length) : (es.take (k + 1)).map dn.says = (es.take k).map dn.says ++ [(es.getD k default).says] := by
  rw [List.take_succ_eq_append_getElem hk, List.map_append, List.getD_eq_getElem?_getD, List.getElem?_eq_getElem hk]
  rfl
section
variable {w0 w : World} {F : HP} {p : Nat} {G : List (List fB)} {N : List fB} {op : Int} {gv nv v : Value} {gs : List (Value × List dn)} {now es : List dn} {a : Int} {d z : Value} {dl il : List Int}
theorem vC (H : aB w0 w (dV p G N op • F)) : fE prog 134 #[.pointer (some ⟨p, 0, none⟩)] w fun v w' => v = .int .i64 (zW op) ∧ aB w0 w' (dV p (Vx G N op) (Vy N op) (TJ op) • F) := by
 unfold zW Vx Vy TJ
 refine gy func134 ntmps134 ?_
 dsimp only [aY, Nat.reduceAdd]
 refine ay (ah (aV rfl (aA (aj (ay (ay (ah (aN rfl (dw rfl func161 (iE H) ?_)))))))))
 rintro _ _ ⟨rfl, rfl⟩
 refine aA (aj (pJ (aT (aj (ay (ay ?_))))))
 obtain ⟨vU, sV, jv, jc, iI, oz, mg, zT, zU, ED, kH⟩ := (H).pU
 have hop := iI.2.2.1
 have hop2 := iI.2.2.2.1
 refine ah (aN rfl (bP rfl (bg 0 underlying233 rfl sizeOf231 rfl (bg 2 underlying231 rfl sizeOf3 rfl (dO underlying3 rfl (kH).get.2 rfl (aU (iY rfl rfl) (aA (aj (aP rfl (fun h1 => ?_) (fun h1 => ?_))))))))))
 ·(try simp only [aI] at h1)
  have h0 : op = 0 := by omega
  refine ay (ah (aV rfl (aA (aj (aJ (aK (aQ (.inl rfl) results134 rfl ?_)))))))
  have KC := kH.f5.f5.f5.f5.f5
  have KD := aB.jl iI oz mg rfl KC
  subst h0
  exact ⟨rfl, KD⟩
 ·(try simp only [aI] at h1)
  have h0 : ¬ op = 0 := by omega
  refine aT (aj (ay (ay (ah (aN rfl (bP rfl (bg 0 underlying233 rfl sizeOf231 rfl (bg 2 underlying231 rfl sizeOf3 rfl (dO underlying3 rfl (kH).get.2 rfl (aU (iW rfl rfl (by omega)) (bP rfl (bg 0 underlying233 rfl sizeOf231 rfl (bg 2 underlying231 rfl sizeOf3 rfl (aG (aS 2 (l' := [_, _, _, _, _]) kH sizeOf3 rfl rfl (by first | rfl | assumption) rfl rfl) ?_))))))))))))))
  rintro _ w6 H6
  refine aA (aj (ay (ah (aN rfl (bP rfl (bg 0 underlying233 rfl sizeOf231 rfl (bg 2 underlying231 rfl sizeOf3 rfl (dO underlying3 rfl (H6).get.2 rfl (aU (iY rfl rfl) (aA (aj (aP rfl (fun h2 => ?_) (fun h2 => ?_)))))))))))))
  ·(try simp only [aI] at h2)
   have h1 : op = 1 := by omega
   have Qu := H6.f5.f5.f5.f5.f5
   have Oi := aB.jl (op := op - 1) ⟨iI.1, iI.2.1, by omega, by omega, iI.2.2.2.2⟩ oz mg rfl Qu
   refine ah (aN rfl (dw rfl func166 (wF Oi) ?_))
   rintro _ w9 H9
   refine aA (aj (ay (ah (aV rfl (aA (aj (aJ (aQ (.inl rfl) results134 rfl ?_))))))))
   subst h1
   exact ⟨rfl, H9⟩
  ·(try simp only [aI] at h2)
   have h1 : ¬ op = 1 := by omega
   refine aT (aj (ay (ah (aV rfl (aA (aj (aJ (aQ (.inl rfl) results134 rfl ?_))))))))
   rw [if_neg h0, if_neg h1, if_neg h1, if_neg h0]
   exact ⟨rfl, aB.jl ⟨iI.1, iI.2.1, by omega, by omega, iI.2.2.2.2⟩ oz mg rfl H6.f5.f5.f5.f5.f5⟩
theorem Dz (H : aB w0 w F) (hv : Ie w0 F 3 v es.length (es.flatMap dn.enc)) (he : ∀ k, k < es.length → iT w0 F .i32 (es.getD k default).d (es.getD k default).dl ∧ iT w0 F .i32 (es.getD k default).i (es.getD k default).il)
  (hB : ∀ k, k < es.length → EB (es.getD k default).says) (hL : es.length ≤ 16384) :
  fE prog 162 #[v] w fun v' w' => ∃ fs : List dn, fs.map dn.says = es.map dn.says ∧ aB w0 w' (Row 202 3 v' fs.length (fs.flatMap dn.enc) • jh fs • F) := by
 refine gy func162 ntmps162 ?_
 dsimp only [aY, Nat.reduceAdd]
 refine ay (ah (aV rfl (aA (aj (ay (ah (aV rfl (aA (aj (ay (ay (ah (aN rfl (aU (fM (hv _ (H)) underlying67 rfl) (aN rfl (aA (aj (bf ?_))))))))))))))))))
 refine fH [(6, _), (7, _)] (fun (⟨k, u⟩ : Nat × Value) => [(3, u), (8, .int .i64 (k : Int))]) (fun (⟨k, u⟩ : Nat × Value) W => k ≤ es.length ∧ ∃ fs : List dn, fs.map dn.says = (es.take k).map dn.says ∧ aB w0 W (Row 202 3 u fs.length (fs.flatMap dn.enc) • jh fs • F)) (fun (⟨k, u⟩ : Nat × Value) => es.length - k) ((0, .slice none 0 0)) (Sub.cons rfl (Sub.cons rfl (Sub.nil _))) (Sub.cons rfl (Sub.cons rfl (Sub.nil _))) ⟨by omega, [], rfl, (H.oM none).Wx⟩ ?_
 rintro ⟨k, u⟩ w1 ⟨hk, fs, hfs, HL⟩
 dsimp only [List.cons_append, List.nil_append]
 refine ay (ah (aU (eu rfl rfl) (aA (aj (ay (aP rfl (fun h1 => ?_) (fun h1 => ?_)))))))
 ·(try simp only [aI] at h1)
  try (exfalso; first | contradiction | omega)
  all_goals
   refine aT (aj (ay (bf (ay (ah ?_)))))
   obtain ⟨bv, ov, cv, ev⟩ := Rd.lD (hv _ (HL.right.right)) (by omega)
   cases ev
   refine aU (cZ underlying67 sizeOf202 rfl rfl (by omega)) (aU (iR (ys := [_, _, _]) (hv _ (HL.right.right)) (by omega) underlying202 rfl sizeOf202 rfl (jY dn.yT (by omega) default) rfl) ?_)
   have hkl : k < es.length := by omega
   obtain ⟨f1, f2⟩ := he k hkl
   obtain ⟨hb1, hb2⟩ := hB k hkl
   have hb1 : (es.getD k default).dl.length ≤ 35184372087808 := hb1
   have hb2 : (es.getD k default).il.length ≤ 35184372087808 := hb2
   have hfl : fs.length = k := by have h9 := congrArg List.length hfs; simp at h9; omega
   refine gq (bU (l := [_, _, _]) HL zeroValue202 rfl) ?_
   rintro _ w2 ⟨b2, rfl, H2⟩
   refine aG (bn 0 (l' := [_, _, _]) (us := [_, _, _]) H2 sizeOf202 rfl rfl rfl (aC (by first | rfl | assumption) (aC (by first | rfl | exact Rd.one (f1 _ (H2.right.right.right))) (aC (by first | rfl | exact Rd.one (f2 _ (H2.right.right.right))) aZ))) rfl rfl) ?_
   rintro _ w3 H3
   refine aA (aj (ah (aN rfl (aU (bQ underlying202 rfl sizeOf202 rfl rfl (H3).get.2) (dw rfl func168 (pY H3 (fun W HW => f1 _ (HW.right.right.right)) (fun W HW => f2 _ (HW.right.right.right)) (by omega) (by omega)) ?_)))))
   rintro _ w4 ⟨d4, s4, rfl, H4⟩
   refine gq (lV H4 underlying67 sizeOf202 zeroValue202 rfl rfl rfl (by decide) (by decide)) ?_
   rintro l5 w5 H5
   refine gq (fF H5.f5 underlying67 (show (prog.info? 202).map (fun i => (i.zero, i.size, i.bytes)) = some (some (.agg #[.int .i64 0, .slice none 0 0, .slice none 0 0]), 3, 56) by kernel_rfl) rfl rfl rfl ((H5).aO) (aC (by first | rfl | assumption) (aC (by first | rfl | exact Rd.one ((H5.f2).aO)) (aC (by first | rfl | exact Rd.one ((H5.f3).aO)) aZ))) (by omega) (by omega)) ?_
   rintro l6 w6 H6
   have TK := H6.f2.right
   refine aV rfl (aA (aH (aj (ah (aU (dS rfl rfl (by omega)) (aN rfl (aA ?_)))))))
   refine dA ((k + 1, l6)) ?_ ?_ ?_ ?_
   ·exact (Sub.cons rfl (Sub.cons rfl (Sub.nil _)))
   ·exact (Sub.cons rfl (Sub.cons rfl (Sub.nil _)))
   ·(try dsimp only)
    first | done | exact ⟨by omega, _, by rw [List.map_append, hfs, Oj (by omega)]; rfl, (aB.um (TK.f4.right.f4.f2.f4.f4).jo.swap.jo.swap.f3).Wx⟩
   ·(try dsimp only); omega
 ·(try simp only [aI] at h1)
  try (exfalso; first | contradiction | omega)
  all_goals
   refine dL (aW (aW (bD (aj (ay (ah (aN rfl (aV rfl (aA (aj (aJ (aQ (.inl rfl) results162 rfl ?_))))))))))))
   rw [List.take_of_length_le (by omega)] at hfs
   exact ⟨_, hfs, HL.f2.f2⟩
theorem aB.kF {es : List dn} (H : aB w0 w (jh es • F)) {k : Nat} (hk : k < es.length) : iV w .i32 (es.getD k default).d (es.getD k default).dl ∧ iV w .i32 (es.getD k default).i (es.getD k default).il := let ⟨I, h, hI⟩ := H.rM; ⟨(h k hk).1.rd hI, (h k hk).2.rd hI⟩
theorem wG (H : aB w0 w (Row 202 3 v es.length (es.flatMap dn.enc) • jh es • F)) (hB : ∀ k, k < es.length → EB (es.getD k default).says) (hL : es.length ≤ 16384) :
    fE prog 162 #[v] w fun v' w' => ∃ fs : List dn, fs.map dn.says = es.map dn.says ∧ aB w0 w' (Row 202 3 v' fs.length (fs.flatMap dn.enc) • jh fs • Row 202 3 v es.length (es.flatMap dn.enc) • jh es • F) :=
  Dz H (fun W HW => HW.aO) (fun k hk => ⟨fun W HW => (HW.right.kF hk).1, fun W HW => (HW.right.kF hk).2⟩) hB hL
theorem sW (H : aB w0 w (zC v es • F)) (hB : ∀ k, k < es.length → EB (es.getD k default).says) (hL : es.length ≤ 16384) :
    fE prog 162 #[v] w fun v' w' => ∃ fs : List dn, fs.map dn.says = es.map dn.says ∧ aB w0 w' (Row 202 3 v' fs.length (fs.flatMap dn.enc) • jh fs • zC v es • F) :=
  Dz H (fun W HW => HW.xU) (fun k hk => ⟨fun W HW => HW.Xz hk, fun W HW => HW.XA hk⟩) hB hL
end
end Go.Proofs.YtddekefihgejoaaGreatDoor
end
section
namespace Go.Proofs.YtddekefihgejoaaGreatDoor
open Go.RowKit
open _root_.Go.Proofs.Tryz
def abX (G : List (List fB)) (N : List fB) : List fB := (ji G N).flatten.reverse.map Dy
section
variable {w0 w : World} {F : HP} {p : Nat} {G : List (List fB)} {N : List fB} {op : Int} {gv nv v u : Value} {gs : List (Value × List dn)} {now es fs : List dn} {a : Int} {d z : Value} {dl il : List Int}
theorem DC (H : aB w0 w (dV p G N op • F)) : fE prog 138 #[.pointer (some ⟨p, 0, none⟩)] w fun _ w' => aB w0 w' (dV p [] [] 0 • F) := by
 refine gy func138 ntmps138 ?_
 dsimp only [aY, Nat.reduceAdd]
 refine ay (ah (aN rfl (dw rfl func161 (iE H) ?_)))
 rintro _ _ ⟨rfl, rfl⟩
 refine aU (kJ rfl) (aA (aj (aP rfl (fun h1 => ?_) (fun h => by exfalso; (try simp only [aI] at h); simp at h))))
 (try simp only [aI] at h1)
 obtain ⟨vU, sV, jv, jc, iI, oz, mg, zT, zU, ED, kH⟩ := (H).pU
 refine ah (aN rfl (aU (fD (pl := #[(0, 4), (4, 1)]) (#[_, _, _, _, _]) underlying233 zeroValue233 (fun w => by kernel_rfl) rfl (rfl)) (bP rfl (aG (bn 0 (l' := [_, _, _, _, _]) (us := [_, _, _, _, _]) kH sizeOf233 rfl rfl rfl (aC (by first | rfl | assumption) (aC (by first | rfl | assumption) (aC (by first | rfl | assumption) (aC (by first | rfl | assumption) (aC (by first | rfl | assumption) aZ))))) rfl rfl) ?_))))
 rintro _ w3 H3
 refine aA (fU (.inr rfl) results138 ?_)
 refine aB.oZ (gv := .slice none 0 0) (nv := .slice none 0 0) (gs := []) (now := []) ⟨by simp, by decide, by decide, by decide, by simp, by simp⟩ rfl rfl rfl ?_
 exact (((H3.f2.right.f2.right.f2.right.f2.right).oM none).yX none).of_eq (by ac_rfl)
theorem aB.Gq (H : aB w0 w (nM gs • F)) {k : Nat} {gl : Value} {vw : List dn} (hk : k < gs.length) (hg : gs.getD k default = (gl, vw)) : aB w0 w (zC gl vw • nM gs • F) := by
  have := H.IK hk
  rwa [hg] at this
end
end Go.Proofs.YtddekefihgejoaaGreatDoor
end
section
namespace Go.Proofs.YtddekefihgejoaaGreatDoor
open Go.RowKit
open _root_.Go.Proofs.Tryz
theorem Ol {G : List (List fB)} {k : Nat} (hk : k < G.length) : G.take (k + 1) = G.take k ++ [G.getD k []] := by
  rw [List.take_succ_eq_append_getElem hk, List.getD_eq_getElem?_getD, List.getElem?_eq_getElem hk]
  rfl
theorem Gs {G : List (List fB)} {g : List fB} (h : g ∈ G) : g.length ≤ (G.map List.length).sum := by
  induction G with
  | nil => cases h
  | cons x G ih =>
    rw [List.map_cons, List.sum_cons]
    rcases List.mem_cons.1 h with rfl | h
    · omega
    · have := ih h; omega
theorem I5 {es : List dn} {l : List fB} (h : es.map dn.says = l) (hl : ∀ e ∈ l, EB e) : ∀ k, k < es.length → EB (es.getD k default).says := fun k hk =>
  hl _ (by rw [← h]; exact List.mem_map_of_mem (ug hk))
section
variable {w0 w : World} {F : HP} {p : Nat} {G : List (List fB)} {N : List fB} {op : Int}
theorem DF (H : aB w0 w (dV p G N op • F)) : fE prog 126 #[.pointer (some ⟨p, 0, none⟩)] w fun v w' => ∃ q, v = .pointer (some ⟨q, 0, none⟩) ∧ aB w0 w' (dV q G N op • dV p G N op • F) := by
 refine gy func126 ntmps126 ?_
 dsimp only [aY, Nat.reduceAdd]
 refine ay (ah (aV rfl (aA (aj (ay (ay (ah (aN rfl (dw rfl func161 (iE H) ?_)))))))))
 rintro _ _ ⟨rfl, rfl⟩
 refine aA (aj (pJ (aT (aj (ay ?_)))))
 obtain ⟨vU, sV, jv, jc, iI, oz, mg, zT, zU, ED, kH⟩ := (H).pU
 have hLn : jc.length ≤ 16384 := by omega
 have hBn := I5 mg iI.2.2.2.2.2
 refine ah (aN rfl (bP rfl (aU (bQ underlying233 rfl sizeOf233 rfl rfl (kH).get.2) (gq (bU (l := [_, _, _, _, _]) kH zeroValue233 rfl) ?_))))
 rintro _ w3 ⟨b3, rfl, H3⟩
 refine aG (bn 0 (l' := [_, _, _, _, _]) (us := [_, _, _, _, _]) H3 sizeOf233 rfl rfl rfl (aC (by first | rfl | exact Rd.one ((H3.f3).aO)) (aC (by first | rfl | exact Rd.one ((H3.f5).aO)) (aC (by first | rfl | assumption) (aC (by first | rfl | assumption) (aC (by first | rfl | assumption) aZ))))) rfl rfl) ?_
 rintro _ w4 H4
 refine aA (aj (ay (ah (aN rfl (bP rfl (bg 0 underlying233 rfl sizeOf231 rfl (bg 1 underlying231 rfl sizeOf67 rfl (dO underlying67 rfl (H4.f2).get.2 rfl (dw rfl func162 (wG H4.f6.f6 hBn hLn) ?_)))))))))
 rintro u5 w5 ⟨fs5, Zv, H5⟩
 obtain ⟨es1, rfl⟩ : ∃ q, q = fs5 := ⟨_, rfl⟩
 have hes1 := Zv
 refine bg 0 underlying233 rfl sizeOf231 rfl (bg 0 underlying231 rfl sizeOf180 rfl (aG (aS 0 (l' := [_, _, _, _, _]) H5.f5 sizeOf180 rfl rfl (by first | rfl | assumption) rfl rfl) ?_))
 rintro _ w6 H6
 refine bg 0 underlying233 rfl sizeOf231 rfl (bg 1 underlying231 rfl sizeOf67 rfl (aG (aS 1 (l' := [_, _, _, _, _]) H6 sizeOf67 rfl rfl (by first | rfl | exact Rd.one ((H6.f2).aO)) rfl rfl) ?_))
 rintro _ w7 H7
 refine aA (aj (ay (ay (ah (aN rfl (bP rfl (bg 0 underlying233 rfl sizeOf231 rfl (bg 0 underlying231 rfl sizeOf180 rfl (dO underlying180 rfl (H7.f6).get.2 rfl (aU (fM ((H7.f7).aO) underlying180 rfl) (aN rfl (aA (aj (bf ?_))))))))))))))
 obtain ⟨UJ, UK, XJ, -⟩ := ((H7.f7).aO).form
 subst XJ
 refine fH [(3, _), (25, _), (26, _)] (fun (k : Nat) => [(27, .int .i64 (k : Int))]) (fun (k : Nat) W => k ≤ jv.length ∧ ∃ gu, ∃ hs : List (Value × List dn), hs.map (fun g => g.2.map dn.says) = G.take k ∧ aB w0 W (bY b3 (.cells #[gu, u5, .int .i64 op, .int .i64 (eH G N : Nat), .bool true] 233 (0, 0)) • Row 67 1 gu hs.length (hs.map (·.1)) • nM hs • Row 202 3 u5 es1.length (es1.flatMap dn.enc) • jh es1 • bY p (.cells #[(.slice UJ (jv.length) UK), sV, .int .i64 op, .int .i64 (eH G N : Nat), .bool true] 233 (0, 0)) • Row 67 1 (.slice UJ (jv.length) UK) jv.length (jv.map (·.1)) • nM jv • Row 202 3 sV jc.length (jc.flatMap dn.enc) • jh jc • F)) (fun (k : Nat) => jv.length - k) (0) (Sub.cons rfl (Sub.cons rfl (Sub.cons rfl (Sub.nil _)))) (Sub.cons rfl (Sub.nil _)) ⟨by omega, _, [], rfl, ((H7.f5.f5.f8.f8.f8.f6.f8.f8).yX none).Vr.f5⟩ ?_
 rintro k w9 ⟨hk, gu, hs, Om, HL⟩
 dsimp only [List.cons_append, List.nil_append]
 refine ay (ah (aU (eu rfl rfl) (aA (aj (ay (aP rfl (fun h1 => ?_) (fun h1 => ?_)))))))
 ·(try simp only [aI] at h1)
  refine aT (aj (ay (bf (ay (ah ?_)))))
  obtain ⟨abf, abg, rfl⟩ := Rd.pos ((HL.f7).aO) (by omega)
  refine aU (cZ underlying180 sizeOf67 rfl rfl (by omega)) ?_
  refine aU (fJ (bW underlying67 rfl) rfl (by first | exact Rd.pX ((HL.f7).aO) (by omega) | exact Rd.Es ((HL.f7).aO) (by omega) | exact Rd.CY ((HL.f7).aO) (by omega))) ?_
  have hkl : k < jv.length := by omega
  rw [show (jv.map (·.1)).getD k undef = (jv.getD k default).1 from by simp [List.getD_eq_getElem?_getD, hkl]]
  obtain ⟨gl, vw, hg⟩ : ∃ gl vw, jv.getD k default = (gl, vw) := ⟨_, _, rfl⟩
  rw [hg]
  have Qw := HL.f8
  have Qx := Qw.Gq hkl hg
  have hge : vw.map dn.says = G.getD k [] := by
   rw [← oz]
   have h9 : (jv.map (fun g => g.2.map dn.says)).getD k [] = (jv.getD k default).2.map dn.says := by simp [List.getD_eq_getElem?_getD, hkl]
   rw [h9, hg]
  have hgm : G.getD k [] ∈ G := ug (by omega)
  have hBg := I5 hge (iI.2.2.2.2.1 _ hgm)
  have XK : vw.length ≤ 16384 := by
   have h8 := iI.2.1
   unfold eH at h8
   have h7 := congrArg List.length hge
   rw [List.length_map] at h7
   have h6 := Gs hgm
   omega
  have Zw := congrArg List.length Om
  rw [List.length_map, List.length_take] at Zw
  refine aV rfl (aA (aj ?_))
  have UL := Qx.drew
  have DI := aB.kp (UL.f11.f11.f11.f11.f11.f11.f11.f11.f11.f11.f11)
  refine vV [2] DI rfl (dR 0 rfl DI 0 underlying233 rfl sizeOf231 rfl (dR 1 rfl DI 0 underlying231 rfl sizeOf180 rfl (gY 2 rfl DI (fun W hW => iH underlying180 rfl ((Kp.h hW).f3).get.2 rfl) (gQ 3 rfl DI rfl (jk 4 rfl (rP rfl func162 (sW UL hBg XK)) ?_)))))
  rintro Wn w12 ⟨Qv, UH, uf⟩
  obtain ⟨es2, rfl⟩ : ∃ q, q = Qv := ⟨_, rfl⟩
  have hes2 := UH
  have yY := aB.kp (uf.f13.f13.f13.f13.f13.f13.f13.f13.f13.f13.f13.f13.f13)
  refine bT yY (fun W hW => (Kp.h hW).right.right.f11.f11.f11.f11.f11.f11.f11.f11.f11.f11.f11) ?_
  refine jk 5 rfl (iK (vs := [_]) uf underlying180 sizeOf67 zeroValue67 rfl rfl rfl (by decide) (aC (by first | rfl | exact Rd.one ((uf).aO)) aZ)) ?_
  rintro l13 NY xC
  have Dw := aB.kp (xC.f14.f14.f14.f14.f14.f14.f14.f14.f14.f14.f14.f14.f14.f14)
  refine bT Dw (fun W hW => (Kp.h hW).right.f13.f13.f13.f13.f13.f13.f13.f13.f13.f13.f13.f13.f13) ?_
  refine jk 6 rfl (fF xC.f7 underlying180 (show (prog.info? 67).map (fun i => (i.zero, i.size, i.bytes)) = some (some (.slice none 0 0), 1, 24) by kernel_rfl) rfl rfl rfl ((xC).aO) (aC (by first | rfl | exact Rd.one ((xC.f2).aO)) aZ) (by omega) (by omega)) ?_
  rintro Zp NZ yB
  have Vz := yB.f2.right
  have vS := aB.kp (Vz.f13.f13.f13.f13.f13.f13.f13.f13.f13.f13.f13.f13.f13)
  refine dN vS (by kernel_rfl) ?_
  refine dR 7 rfl vS 0 underlying233 rfl sizeOf231 rfl (dR 8 rfl vS 0 underlying231 rfl sizeOf180 rfl ?_)
  refine dJ 9 rfl (by kernel_rfl) (aS 0 (l' := [_, _, _, _, _]) Vz.f6 sizeOf180 rfl rfl (by first | rfl | exact Rd.one ((Vz).aO)) rfl rfl) ?_
  rintro _ w16 qY
  have y8 := aB.kp (qY.f13.f13.f13.f13.f13.f13.f13.f13.f13.f13.f13.f13.f13)
  refine dN y8 (by kernel_rfl) ?_
  have X := aB.ru (es := es2) (qY.f5.right.f12.f12.f7.f12.f12.f12.f12.f8.f12.f10.f12.f12).deep
  have HN := (aB.uo X.swap).Vr.f3
  have hnew : (hs ++ [(Wn, es2)]).map (fun g => g.2.map dn.says) = G.take (k + 1) := by rw [List.map_append, Om, Ol (by omega), ← hge, ← hes2]; rfl
  refine nT (aH (aj (ah (aU (dS rfl rfl (by omega)) (aN rfl (aA ?_))))))
  refine dA (k + 1) ?_ ?_ ?_ ?_
  ·exact (Sub.cons rfl (Sub.nil _))
  ·exact (Sub.cons rfl (Sub.cons rfl (Sub.cons rfl (Sub.nil _))))
  ·(try dsimp only)
   first | done | exact ⟨by omega, _, _, hnew, HN⟩
  ·(try dsimp only); omega
 ·(try simp only [aI] at h1)
  refine dL (aW (aW (bD (aj (ay (ah (aV rfl (aA (aj (aJ (aQ (.inl rfl) results126 rfl ?_)))))))))))
  rw [List.take_of_length_le (by omega)] at Om
  have X := aB.jl (gs := hs) (now := es1) iI Om (hes1.trans mg) rfl (HL.f10.f10.f10.f10.f10.f10.f10.f10.f10.f10)
  have Y := aB.jl iI oz mg rfl X.f6.f6.f6.f6.f6
  exact ⟨_, rfl, Y.swap⟩
end
end Go.Proofs.YtddekefihgejoaaGreatDoor
end
section
namespace Go.Proofs.YtddekefihgejoaaGreatDoor
open Go.RowKit
def xX (G : List (List fB)) (N : List fB) : List (List fB) := (ji G N).reverse
def Gt (N : List fB) : List (List fB) := if N = [] then [] else [N]
theorem Qy (N : List fB) : (Gt N).length ≤ 1 := by unfold Gt; split <;> simp
theorem TL (G : List (List fB)) (N : List fB) : xX G N = Gt N ++ G.reverse := by
  unfold xX Gt ji; split <;> simp
end Go.Proofs.YtddekefihgejoaaGreatDoor
end
