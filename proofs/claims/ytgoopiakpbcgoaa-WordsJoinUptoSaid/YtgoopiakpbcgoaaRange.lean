/- Loops over functions: a call of yield; what an iterator does; the loop. -/
import Derived.Test.YtgoopiakpbcgoaaFun
set_option linter.unusedSimpArgs false
set_option linter.unusedVariables false
namespace Go.Proofs.Ytgoopiakpbcgoaa
open Go.RowKit

/-- A call of the yield of loop l comes back, and so. -/
def YRet (P : Program) (l : Nat) (vs : List Value) (w : World) (T : Value → World → Prop) : Prop :=
  ∃ f tmps c d, (Instr.yield l vs.toArray).run P w = .ok (.round l f tmps c d) w ∧ RoundIn Fence.wide 0 P l f tmps c d w fun e w' => ∃ v, e = .returned v ∧ T v w'
theorem YRet.mono {P : Program} {l : Nat} {vs : List Value} {w : World} {T T' : Value → World → Prop} (h : YRet P l vs w T) (k : ∀ v w', T v w' → T' v w') : YRet P l vs w T' :=
  let ⟨f, tmps, c, d, h1, h2⟩ := h; ⟨f, tmps, c, d, h1, RoundIn.mono h2 fun _ _ ⟨v, e, t⟩ => ⟨v, e, k _ _ t⟩⟩
theorem YRet.bool {P : Program} {l : Nat} {vs : List Value} {w : World} {A B : World → Prop} (h : YRet P l vs w fun v W' => (v = .bool true ∧ A W') ∨ (v = .bool false ∧ B W')) : YRet P l vs w fun v W' => ∃ t, v = .bool t ∧ (t = true → A W') ∧ (t = false → B W') :=
  h.mono fun v W' hv => by
    rcases hv with ⟨rfl, h⟩ | ⟨rfl, h⟩
    · exact ⟨true, rfl, fun _ => h, fun e => by cases e⟩
    · exact ⟨false, rfl, (fun e => by cases e), fun _ => h⟩
theorem e_yield {P : Program} {L : List (Nat × Value)} {w : World} {ty : TypeId} {x : Operand} {args : List Operand} {ts : Array TypeId} {l : Nat} {vs : List Value} {T : Value → World → Prop} (hx : ev L x = some (.func (.yield l) #[] #[])) (ha : evl L args = some vs) (h : YRet P l vs w T) :
    Eff P L (.call ⟨.value x, args.toArray, ts⟩) ty w T := by
  obtain ⟨f, tmps, c, d, hy, hr⟩ := h
  refine e_round (fun ρ hρ dd pos aft g => ?_) hr
  have hg := hρ _ _ hx
  simp [execOp, resolve, invoke, evs hρ _ _ ha, hg, Deferred.ofValue, hy]

/-- What an iterator does, called with a yield: at most n times, its k-th call hands over values and memory as E says; it stops where the yield says no. -/
def Iter (P : Program) (w0 : World) (fv : Value) (R : HP) (n : Nat) (E : Nat → List Value → HP → Prop) : Prop :=
  ∀ (l : Nat) (J : Nat → HP) (X : HP) (w : World),
    (∀ k, k < n → ∀ vs A, E k vs A → ∀ G W, Holds w0 W (A • J k • G) → YRet P l vs W fun v W' => (v = .bool true ∧ Holds w0 W' (J (k + 1) • G)) ∨ (v = .bool false ∧ Holds w0 W' (X • G))) →
    Holds w0 w (J 0 • R) → FnRet P fv [.func (.yield l) #[] #[]] w fun _ W' => Holds w0 W' (J n • R) ∨ Holds w0 W' (X • R)

/-- What a round leaves. -/
def RPost (w0 : World) (I : HP) (Xr : HP) (Xe : Nat → HP) (G : HP) : Exit → Act → World → Prop
  | .normal, _, W => Holds w0 W (I • G)
  | .ret, _, W => Holds w0 W (Xr • G)
  | .exit id, _, W => Holds w0 W (Xe id • G)
  | _, _, _ => False
/-- What the assignment to a round's variables leaves, and that the round's body goes on from there. -/
def MidPost (P : Program) (N : Sh) (w0 : World) (body : Code) (I : HP) (Xr : HP) (Xe : Nat → HP) (G : HP) (a : Act) (W : World) : Prop :=
  ∃ (L : List (Nat × Value)) (B : HP), Fits N L a ∧ Holds w0 W (B • G) ∧ ∀ G' W', Holds w0 W' (B • G') → WC P N body (RPost w0 I Xr Xe G') L W'
def noPost : Exit → Act → World → Prop := fun _ _ _ => False
theorem wq_mid {P : Program} {N : Sh} {w0 w : World} {body : Code} {I Xr : HP} {Xe : Nat → HP} {G B : HP} {L : List (Nat × Value)} (H : Holds w0 w (B • G)) (h : ∀ G' W', Holds w0 W' (B • G') → WC P N body (RPost w0 I Xr Xe G') L W') :
    WQ N (Exit.then (MidPost P N w0 body I Xr Xe G) noPost) .normal L w := fun _ a ha => ⟨L, B, ha, H, h⟩
theorem wq_rnormal {N : Sh} {w0 w : World} {I Xr : HP} {Xe : Nat → HP} {G : HP} {L : List (Nat × Value)} (H : Holds w0 w (I • G)) : WQ N (RPost w0 I Xr Xe G) .normal L w := fun _ _ _ => H
theorem wq_rret {N : Sh} {w0 w : World} {I Xr : HP} {Xe : Nat → HP} {G : HP} {L : List (Nat × Value)} (H : Holds w0 w (Xr • G)) : WQ N (RPost w0 I Xr Xe G) .ret L w := fun _ _ _ => H
theorem wq_rexit {N : Sh} {w0 w : World} {I Xr : HP} {Xe : Nat → HP} {G : HP} {id : Nat} {L : List (Nat × Value)} (H : Holds w0 w (Xe id • G)) : WQ N (RPost w0 I Xr Xe G) (.exit id) L w := fun _ _ _ => H
theorem np_rpost {w0 : World} {I Xr : HP} {Xe : Nat → HP} {G : HP} : NP (RPost w0 I Xr Xe G) := fun _ _ _ h => h

/-- The slots of a round: the parameters ahead of the frame's. -/
def zipL : List Nat → List Value → List (Nat × Value) → List (Nat × Value)
  | [], _, L => L
  | _ :: _, [], L => L
  | p :: ps, v :: vs, L => zipL ps vs ((p, v) :: L)
theorem fits_zip {n l : Nat} : ∀ (ps : List Nat) (vs : List Value) (L : List (Nat × Value)) (tmps : Array Value), (∀ p ∈ ps, p < n) → Fits ⟨n, [], some l⟩ L { tmps := tmps, defers := [] } →
    Fits ⟨n, [], some l⟩ (zipL ps vs L) { tmps := (ps.zip vs).foldl (fun t (p : Nat × Value) => t.setIfInBounds p.1 p.2) tmps, defers := [] }
  | [], _, _, _, _, h => h
  | _ :: _, [], _, _, _, h => h
  | p :: ps, v :: vs, L, tmps, hp, h => fits_zip ps vs _ _ (fun q hq => hp q (by simp [hq])) (h.put (hp p (by simp)) v)

section
variable {P : Program} {N : Sh} {Q : Exit → Act → World → Prop} {L : List (Nat × Value)} {w0 w : World}
/-- A loop over a function. -/
theorem wc_rangeFunc {g : Operand} {ps : List Nat} {assign body : Code} {fv : Value} {R : HP} {n : Nat} {E : Nat → List Value → HP → Prop} (hg : ev L g = some fv) (hit : Iter P w0 fv R n E) (I : Nat → HP) (Xr : HP) (Xe : Nat → HP) (H : Holds w0 w (I 0 • R))
    (hps : ps.all (· < N.n) = true)
    (hbody : ∀ l k, k < n → ∀ vs A, E k vs A → ∀ G W, Holds w0 W (A • I k • G) → vs.length = ps.length ∧ WC P ⟨N.n, [], some l⟩ assign (Exit.then (MidPost P ⟨N.n, [], some l⟩ w0 body (I (k + 1)) Xr Xe G) noPost) (zipL ps vs L) W)
    (hdone : ∀ D W, Holds w0 W (blk D (.deferred (some [])) • I n • R) → WQ ⟨N.n, D :: N.ds, none⟩ Q .normal L W)
    (hret : ∀ D W, Holds w0 W (blk D (.deferred (some [])) • Xr • R) → WQ ⟨N.n, D :: N.ds, none⟩ Q .ret L W)
    (hexit : ∀ id D W, Holds w0 W (blk D (.deferred (some [])) • Xe id • R) → WQ ⟨N.n, D :: N.ds, none⟩ Q (.exit id) L W)
    (hro : N.ro = none := by rfl) : WC P N (.rangeFunc g ps.toArray assign body) Q L w := fun np a ha => by
  rw [hro]
  refine wpIn_rangeFunc fun fn _ => ?_
  let rec0 : LoopState → Option Code → Loop := fun s j => { state := s, pending := j, fn, tmps := a.tmps, params := ps.toArray, assign, body, defers := w.heap.size }
  have hlay := run_enterLoop_outer (P := P) (w := w) fn a.tmps ps.toArray assign body
  have H1 : Holds w0 ((w.alloc (.deferred (some []))).alloc (.loop (rec0 .ready none))) (blk (w.heap.size + 1) (.loop (rec0 .ready none)) • blk w.heap.size (.deferred (some [])) • I 0 • R) := by
    have := (H.alloc (.deferred (some []))).alloc (.loop (rec0 .ready none))
    rw [World.size_alloc] at this
    exact this
  let Lk : LoopState → Option Code → HP := fun s j => blk (w.heap.size + 1) (.loop (rec0 s j)) • blk w.heap.size (.deferred (some []))
  have hround : ∀ k, k < n → ∀ vs A, E k vs A → ∀ G W, Holds w0 W (A • (Lk .ready none • I k) • G) → YRet P (w.heap.size + 1) vs W fun v W' => (v = .bool true ∧ Holds w0 W' ((Lk .ready none • I (k + 1)) • G)) ∨
      (v = .bool false ∧ Holds w0 W' (exHP (fun c : Code => Lk .done (some c) • (match c with | .ret => Xr | .exit id => Xe id | _ => fact False)) • G)) := by
    intro k hk vs A hE G W HW
    -- the record in front
    have e1 : (A • (Lk .ready none • I k) • G) = (blk (w.heap.size + 1) (.loop (rec0 .ready none)) • A • I k • blk w.heap.size (.deferred (some [])) • G) := by
      show (A • ((blk (w.heap.size + 1) (.loop (rec0 .ready none)) • blk w.heap.size (.deferred (some []))) • I k) • G) = _
      ac_rfl
    have HW1 := HW.of_eq e1
    have hl := HW1.get.2
    have hlen := (hbody (w.heap.size + 1) k hk vs A hE _ W (HW1.of_eq (show _ = (A • I k • blk (w.heap.size + 1) (.loop (rec0 .ready none)) • blk w.heap.size (.deferred (some [])) • G) by ac_rfl))).1
    refine ⟨fn, _, assign, body, run_yield hl (by rw [List.size_toArray, hlen]; exact List.size_toArray.symm), ?_⟩
    have hfit : Fits ⟨N.n, [], some (w.heap.size + 1)⟩ (zipL ps vs L) { tmps := (ps.toArray.zip vs.toArray).foldl (fun tmps (t, a) => tmps.setIfInBounds t a) a.tmps, defers := [] } := by
      have := fits_zip (n := N.n) (l := w.heap.size + 1) ps vs L a.tmps (fun p hp => by simpa using List.all_eq_true.1 hps p hp) ⟨ha.size, rfl, ha.at_⟩
      simpa using this
    refine roundIn_of_wpIn trivial ?_
    have HW2 : Holds w0 W (A • I k • blk (w.heap.size + 1) (.loop (rec0 .ready none)) • blk w.heap.size (.deferred (some [])) • G) := HW1.of_eq (by ac_rfl)
    have hb := (hbody (w.heap.size + 1) k hk vs A hE _ W HW2).2 (fun c a w h => h) _ hfit
    refine wpIn_mono hb ?_
    rintro e a1 W1 hq
    cases e with
    | exit id => exact hq.elim
    | goto l => exact hq.elim
    | ret => exact hq.elim
    | panic c => exact hq.elim
    | outgrown => exact hq.elim
    | normal =>
      obtain ⟨L1, B, hf1, HB, hgo⟩ := hq
      have HB1 : Holds w0 W1 (blk (w.heap.size + 1) (.loop (rec0 .ready none)) • B • blk w.heap.size (.deferred (some [])) • G) := HB.of_eq (by ac_rfl)
      have hl1 := HB1.get.2
      refine ⟨_, run_beginRound hl1 rfl, ?_⟩
      have HB2 : Holds w0 (W1.putObj (w.heap.size + 1) (.loop (rec0 .busy none))) (blk (w.heap.size + 1) (.loop (rec0 .busy none)) • B • blk w.heap.size (.deferred (some [])) • G) := HB1.turn rfl rfl rfl (by simp) (World.putObj_heap_same HB1.lt) fun k hk _ => World.putObj_heap_other hk
      have hbd := hgo (blk (w.heap.size + 1) (.loop (rec0 .busy none)) • blk w.heap.size (.deferred (some [])) • G) _ (HB2.of_eq (by ac_rfl)) np_rpost a1 hf1
      refine wpIn_mono hbd ?_
      have fin : ∀ (j : Option Code) (W3 : World) (A3 : HP), Holds w0 W3 (A3 • blk (w.heap.size + 1) (.loop (rec0 .busy none)) • blk w.heap.size (.deferred (some [])) • G) →
          (Instr.endRound (w.heap.size + 1) j).run P W3 = .ok (.bool j.isNone) (W3.putObj (w.heap.size + 1) (.loop (rec0 (if j.isNone then .ready else .done) j))) ∧
          Holds w0 (W3.putObj (w.heap.size + 1) (.loop (rec0 (if j.isNone then .ready else .done) j))) ((Lk (if j.isNone then .ready else .done) j • A3) • G) := by
        intro j W3 A3 H3
        have H4 := H3.swap
        refine ⟨run_endRound j H4.get.2, ?_⟩
        have H5 : Holds w0 (W3.putObj (w.heap.size + 1) (.loop (rec0 (if j.isNone then .ready else .done) j))) (blk (w.heap.size + 1) (.loop (rec0 (if j.isNone then .ready else .done) j)) • A3 • blk w.heap.size (.deferred (some [])) • G) := H4.turn rfl rfl rfl (by simp) (World.putObj_heap_same H4.lt) fun k hk _ => World.putObj_heap_other hk
        refine H5.of_eq ?_
        show _ = (((blk (w.heap.size + 1) (.loop (rec0 (if j.isNone then .ready else .done) j)) • blk w.heap.size (.deferred (some []))) • A3) • G)
        ac_rfl
      rintro e a3 W3 hp
      cases e with
      | normal => obtain ⟨h1, h2⟩ := fin none W3 _ hp; exact ⟨_, _, h1, _, rfl, .inl ⟨rfl, h2⟩⟩
      | ret => obtain ⟨h1, h2⟩ := fin (some .ret) W3 _ hp; exact ⟨_, _, h1, _, rfl, .inr ⟨rfl, Holds.mk_ex_sep .ret h2⟩⟩
      | exit id => obtain ⟨h1, h2⟩ := fin (some (.exit id)) W3 _ hp; exact ⟨_, _, h1, _, rfl, .inr ⟨rfl, Holds.mk_ex_sep (.exit id) h2⟩⟩
      | goto l => exact hp.elim
      | panic c => exact hp.elim
      | outgrown => exact hp.elim
  have hcall := hit (w.heap.size + 1) (fun k => Lk .ready none • I k) _ _ hround (H1.of_eq (by
    show _ = (((blk (w.heap.size + 1) (.loop (rec0 .ready none)) • blk w.heap.size (.deferred (some []))) • I 0) • R)
    ac_rfl))
  obtain ⟨f, first, cap, fn', c, rfl, hf, hn, hb, hret'⟩ := hcall
  refine ⟨w.heap.size + 1, _, _, { target := .fn (.func f) cap.toArray, args := (first ++ [Value.func (.yield (w.heap.size + 1)) #[] #[]]).toArray }, (w.alloc (.deferred (some []))).alloc (.loop (rec0 .ready none)), f, _, (w.alloc (.deferred (some []))).alloc (.loop (rec0 .ready none)), hlay, ?_, fun _ _ => trivial, ?_, (fun h => by cases h), fz_calls.2 (Calls.mono hret' ?_)⟩
  · have he := ha.ev hg
    have he2 : a.eval (.const (.func (.yield (w.heap.size + 1)) #[] #[])) = .func (.yield (w.heap.size + 1)) #[] #[] := rfl
    simp [resolve, rangeCall, he, he2, Deferred.ofValue, rec0]
  · simp [invoke, callFunc, hf, hb]
    simpa using hn
  · rintro e W2 ⟨v, rfl, hv⟩
    have fin : ∀ (s : LoopState) (j : Option Code) (A : HP), s ≠ .busy → Holds w0 W2 ((Lk s j • A) • R) → (Instr.endLoop (w.heap.size + 1)).run P W2 = .ok j (W2.putObj (w.heap.size + 1) (.loop (rec0 .exhausted j))) ∧
        Holds w0 (W2.putObj (w.heap.size + 1) (.loop (rec0 .exhausted j))) (blk w.heap.size (.deferred (some [])) • A • R) := by
      intro s j A hs H3
      have H4 : Holds w0 W2 (blk (w.heap.size + 1) (.loop (rec0 s j)) • blk w.heap.size (.deferred (some [])) • A • R) := H3.of_eq (by
        show (((blk (w.heap.size + 1) (.loop (rec0 s j)) • blk w.heap.size (.deferred (some []))) • A) • R) = _
        ac_rfl)
      refine ⟨run_endLoop H4.get.2 hs, ?_⟩
      have H5 : Holds w0 (W2.putObj (w.heap.size + 1) (.loop (rec0 .exhausted j))) (blk (w.heap.size + 1) (.loop (rec0 .exhausted j)) • blk w.heap.size (.deferred (some [])) • A • R) := H4.turn rfl rfl rfl (by simp) (World.putObj_heap_same H4.lt) fun k hk _ => World.putObj_heap_other hk
      exact H5.right
    have hfit : Fits ⟨N.n, w.heap.size :: N.ds, none⟩ L { a with defers := [{ target := .collected w.heap.size, args := #[] }] ++ a.defers } := ⟨ha.size, by simp [ha.defers, markD], ha.at_⟩
    rcases hv with hv | hv
    · obtain ⟨h1, h2⟩ := fin _ _ _ (by decide) hv
      exact ⟨none, _, h1, hdone _ _ h2 np _ hfit⟩
    · obtain ⟨c, hv⟩ := hv.ex_sep
      obtain ⟨h1, h2⟩ := fin _ _ _ (by decide) hv
      cases c with
      | ret => exact ⟨some .ret, _, h1, wpIn_ret (hret _ _ h2 np _ hfit)⟩
      | exit id => exact ⟨some (.exit id), _, h1, wpIn_exit (hexit id _ _ h2 np _ hfit)⟩
      | _ => exact absurd h2.swap.fact.1 id
end
end Go.Proofs.Ytgoopiakpbcgoaa
