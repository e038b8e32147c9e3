import Derived.Test.YtgndbccogcofjaaGreatDoorZ2
import Derived.Test.YtgndbccogcofjaaGreatDoorZ4
import Derived.Test.YtgndbccogcofjaaGreatDoorZ10
set_option linter.unusedSimpArgs false
set_option linter.unusedVariables false
/- Texts of mine, joined, their names in short: Range UList2 UList3 UList4 UList5 UList6 UList7 Grp0. -/
section
namespace Go.Proofs.YtgndbccogcofjaaGreatDoor
open Go.RowKit
def Ig (P : Program) (l : Nat) (vs : List Value) (w : World) (T : Value → World → Prop) : Prop :=
  ∃ f tmps c d, (Instr.yield l vs.toArray).run P w = .ok (.round l f tmps c d) w ∧ RoundIn Fence.wide 0 P l f tmps c d w fun e w' => ∃ v, e = .returned v ∧ T v w'
theorem Ig.mono {P : Program} {l : Nat} {vs : List Value} {w : World} {T T' : Value → World → Prop} (h : Ig P l vs w T) (k : ∀ v w', T v w' → T' v w') : Ig P l vs w T' :=
  let ⟨f, tmps, c, d, h1, h2⟩ := h; ⟨f, tmps, c, d, h1, RoundIn.mono h2 fun _ _ ⟨v, e, t⟩ => ⟨v, e, k _ _ t⟩⟩
theorem Ig.bool {P : Program} {l : Nat} {vs : List Value} {w : World} {A B : World → Prop} (h : Ig P l vs w fun v W' => (v = .bool true ∧ A W') ∨ (v = .bool false ∧ B W')) : Ig P l vs w fun v W' => ∃ t, v = .bool t ∧ (t = true → A W') ∧ (t = false → B W') :=
  h.mono fun v W' hv => by
    rcases hv with ⟨rfl, h⟩ | ⟨rfl, h⟩
    · exact ⟨true, rfl, fun _ => h, fun e => by cases e⟩
    · exact ⟨false, rfl, (fun e => by cases e), fun _ => h⟩
theorem Ih {P : Program} {L : List (Nat × Value)} {w : World} {ty : TypeId} {x : Operand} {args : List Operand} {ts : Array TypeId} {l : Nat} {vs : List Value} {T : Value → World → Prop} (hx : ev L x = some (.func (.yield l) #[] #[])) (ha : yZ L args = some vs) (h : Ig P l vs w T) :
    rM P L (.call ⟨.value x, args.toArray, ts⟩) ty w T := by
  obtain ⟨f, tmps, c, d, hy, hr⟩ := h
  refine Sm (fun ρ hρ dd pos mJ g => ?_) hr
  have hg := hρ _ _ hx
  simp [execOp, resolve, invoke, WZ hρ _ _ ha, hg, Deferred.ofValue, hy]
def Iter (P : Program) (w0 : World) (fv : Value) (R : HP) (n : Nat) (E : Nat → List Value → HP → Prop) : Prop :=
  ∀ (l : Nat) (J : Nat → HP) (X : HP) (w : World),
    (∀ k, k < n → ∀ vs A, E k vs A → ∀ G W, aB w0 W (A • J k • G) → Ig P l vs W fun v W' => (v = .bool true ∧ aB w0 W' (J (k + 1) • G)) ∨ (v = .bool false ∧ aB w0 W' (X • G))) →
    aB w0 w (J 0 • R) → FU P fv [.func (.yield l) #[] #[]] w fun _ W' => aB w0 W' (J n • R) ∨ aB w0 W' (X • R)
def JE (w0 : World) (I : HP) (Xr : HP) (Xe : Nat → HP) (G : HP) : Exit → Act → World → Prop
  | .normal, _, W => aB w0 W (I • G)
  | .ret, _, W => aB w0 W (Xr • G)
  | .exit id, _, W => aB w0 W (Xe id • G)
  | _, _, _ => False
def Nr (P : Program) (N : Sh) (w0 : World) (body : Code) (I : HP) (Xr : HP) (Xe : Nat → HP) (G : HP) (a : Act) (W : World) : Prop :=
  ∃ (L : List (Nat × Value)) (B : HP), Fits N L a ∧ aB w0 W (B • G) ∧ ∀ G' W', aB w0 W' (B • G') → WC P N body (JE w0 I Xr Xe G') L W'
def Qs : Exit → Act → World → Prop := fun _ _ _ => False
theorem Ls {P : Program} {N : Sh} {w0 w : World} {body : Code} {I Xr : HP} {Xe : Nat → HP} {G B : HP} {L : List (Nat × Value)} (H : aB w0 w (B • G)) (h : ∀ G' W', aB w0 W' (B • G') → WC P N body (JE w0 I Xr Xe G') L W') :
    WQ N (Exit.then (Nr P N w0 body I Xr Xe G) Qs) .normal L w := fun _ a ha => ⟨L, B, ha, H, h⟩
theorem DT {N : Sh} {w0 w : World} {I Xr : HP} {Xe : Nat → HP} {G : HP} {L : List (Nat × Value)} (H : aB w0 w (I • G)) : WQ N (JE w0 I Xr Xe G) .normal L w := fun _ _ _ => H
theorem Qu {N : Sh} {w0 w : World} {I Xr : HP} {Xe : Nat → HP} {G : HP} {id : Nat} {L : List (Nat × Value)} (H : aB w0 w (Xe id • G)) : WQ N (JE w0 I Xr Xe G) (.exit id) L w := fun _ _ _ => H
theorem Qv {w0 : World} {I Xr : HP} {Xe : Nat → HP} {G : HP} : NP (JE w0 I Xr Xe G) := fun _ _ _ h => h
def Lu : List Nat → List Value → List (Nat × Value) → List (Nat × Value)
  | [], _, L => L
  | _ :: _, [], L => L
  | p :: ps, v :: vs, L => Lu ps vs ((p, v) :: L)
theorem JF {n l : Nat} : ∀ (ps : List Nat) (vs : List Value) (L : List (Nat × Value)) (tmps : Array Value), (∀ p ∈ ps, p < n) → Fits ⟨n, [], some l⟩ L { tmps := tmps, defers := [] } →
    Fits ⟨n, [], some l⟩ (Lu ps vs L) { tmps := (ps.zip vs).foldl (fun t (p : Nat × Value) => t.setIfInBounds p.1 p.2) tmps, defers := [] }
  | [], _, _, _, _, h => h
  | _ :: _, [], _, _, _, h => h
  | p :: ps, v :: vs, L, tmps, hp, h => JF ps vs _ _ (fun q hq => hp q (by simp [hq])) (h.put (hp p (by simp)) v)
section
variable {P : Program} {N : Sh} {Q : Exit → Act → World → Prop} {L : List (Nat × Value)} {w0 w : World}
theorem vS {g : Operand} {ps : List Nat} {assign body : Code} {fv : Value} {R : HP} {n : Nat} {E : Nat → List Value → HP → Prop} (hg : ev L g = some fv) (hit : Iter P w0 fv R n E) (I : Nat → HP) (Xr : HP) (Xe : Nat → HP) (H : aB w0 w (I 0 • R))
    (hps : ps.all (· < N.n) = true)
    (hbody : ∀ l k, k < n → ∀ vs A, E k vs A → ∀ G W, aB w0 W (A • I k • G) → vs.length = ps.length ∧ WC P ⟨N.n, [], some l⟩ assign (Exit.then (Nr P ⟨N.n, [], some l⟩ w0 body (I (k + 1)) Xr Xe G) Qs) (Lu ps vs L) W)
    (hdone : ∀ D W, aB w0 W (dH D (.deferred (some [])) • I n • R) → WQ ⟨N.n, D :: N.ds, none⟩ Q .normal L W)
    (hret : ∀ D W, aB w0 W (dH D (.deferred (some [])) • Xr • R) → WQ ⟨N.n, D :: N.ds, none⟩ Q .ret L W)
    (Yc : ∀ id D W, aB w0 W (dH D (.deferred (some [])) • Xe id • R) → WQ ⟨N.n, D :: N.ds, none⟩ Q (.exit id) L W)
    (hro : N.ro = none := by rfl) : WC P N (.rangeFunc g ps.toArray assign body) Q L w := fun np a ha => by
  rw [hro]
  refine wpIn_rangeFunc fun fn _ => ?_
  let oH : LoopState → Option Code → Loop := fun s j => { state := s, pending := j, fn, tmps := a.tmps, params := ps.toArray, assign, body, defers := w.heap.size }
  have ZT := run_enterLoop_outer (P := P) (w := w) fn a.tmps ps.toArray assign body
  have H1 : aB w0 ((w.alloc (.deferred (some []))).alloc (.loop (oH .ready none))) (dH (w.heap.size + 1) (.loop (oH .ready none)) • dH w.heap.size (.deferred (some [])) • I 0 • R) := by
    have := (H.alloc (.deferred (some []))).alloc (.loop (oH .ready none))
    rw [World.size_alloc] at this
    exact this
  let Lk : LoopState → Option Code → HP := fun s j => dH (w.heap.size + 1) (.loop (oH s j)) • dH w.heap.size (.deferred (some []))
  have VN : ∀ k, k < n → ∀ vs A, E k vs A → ∀ G W, aB w0 W (A • (Lk .ready none • I k) • G) → Ig P (w.heap.size + 1) vs W fun v W' => (v = .bool true ∧ aB w0 W' ((Lk .ready none • I (k + 1)) • G)) ∨
      (v = .bool false ∧ aB w0 W' (tN (fun c : Code => Lk .done (some c) • (match c with | .ret => Xr | .exit id => Xe id | _ => fact False)) • G)) := by
    intro k hk vs A hE G W HW
    have e1 : (A • (Lk .ready none • I k) • G) = (dH (w.heap.size + 1) (.loop (oH .ready none)) • A • I k • dH w.heap.size (.deferred (some [])) • G) := by
      show (A • ((dH (w.heap.size + 1) (.loop (oH .ready none)) • dH w.heap.size (.deferred (some []))) • I k) • G) = _
      ac_rfl
    have HW1 := HW.of_eq e1
    have hl := HW1.get.2
    have hlen := (hbody (w.heap.size + 1) k hk vs A hE _ W (HW1.of_eq (show _ = (A • I k • dH (w.heap.size + 1) (.loop (oH .ready none)) • dH w.heap.size (.deferred (some [])) • G) by ac_rfl))).1
    refine ⟨fn, _, assign, body, run_yield hl (by rw [List.size_toArray, hlen]; exact List.size_toArray.symm), ?_⟩
    have hfit : Fits ⟨N.n, [], some (w.heap.size + 1)⟩ (Lu ps vs L) { tmps := (ps.toArray.zip vs.toArray).foldl (fun tmps (t, a) => tmps.setIfInBounds t a) a.tmps, defers := [] } := by
      have := JF (n := N.n) (l := w.heap.size + 1) ps vs L a.tmps (fun p hp => by simpa using List.all_eq_true.1 hps p hp) ⟨ha.size, rfl, ha.at_⟩
      simpa using this
    refine roundIn_of_wpIn trivial ?_
    have HW2 : aB w0 W (A • I k • dH (w.heap.size + 1) (.loop (oH .ready none)) • dH w.heap.size (.deferred (some [])) • G) := HW1.of_eq (by ac_rfl)
    have hb := (hbody (w.heap.size + 1) k hk vs A hE _ W HW2).2 (fun c a w h => h) _ hfit
    refine wpIn_mono hb ?_
    rintro e a1 W1 hq
    cases e with
    | exit id => exact hq.elim
    | goto l => exact hq.elim
    | ret => exact hq.elim
    | panic c => exact hq.elim
    | outgrown => exact hq.elim
    | normal =>
      obtain ⟨L1, B, hf1, HB, hgo⟩ := hq
      have HB1 : aB w0 W1 (dH (w.heap.size + 1) (.loop (oH .ready none)) • B • dH w.heap.size (.deferred (some [])) • G) := HB.of_eq (by ac_rfl)
      have hl1 := HB1.get.2
      refine ⟨_, run_beginRound hl1 rfl, ?_⟩
      have HB2 : aB w0 (W1.putObj (w.heap.size + 1) (.loop (oH .busy none))) (dH (w.heap.size + 1) (.loop (oH .busy none)) • B • dH w.heap.size (.deferred (some [])) • G) := HB1.turn rfl rfl rfl (by simp) (World.putObj_heap_same HB1.lt) fun k hk _ => World.putObj_heap_other hk
      have hbd := hgo (dH (w.heap.size + 1) (.loop (oH .busy none)) • dH w.heap.size (.deferred (some [])) • G) _ (HB2.of_eq (by ac_rfl)) Qv a1 hf1
      refine wpIn_mono hbd ?_
      have fin : ∀ (j : Option Code) (W3 : World) (A3 : HP), aB w0 W3 (A3 • dH (w.heap.size + 1) (.loop (oH .busy none)) • dH w.heap.size (.deferred (some [])) • G) →
          (Instr.endRound (w.heap.size + 1) j).run P W3 = .ok (.bool j.isNone) (W3.putObj (w.heap.size + 1) (.loop (oH (if j.isNone then .ready else .done) j))) ∧
          aB w0 (W3.putObj (w.heap.size + 1) (.loop (oH (if j.isNone then .ready else .done) j))) ((Lk (if j.isNone then .ready else .done) j • A3) • G) := by
        intro j W3 A3 H3
        have H4 := H3.swap
        refine ⟨run_endRound j H4.get.2, ?_⟩
        have H5 : aB w0 (W3.putObj (w.heap.size + 1) (.loop (oH (if j.isNone then .ready else .done) j))) (dH (w.heap.size + 1) (.loop (oH (if j.isNone then .ready else .done) j)) • A3 • dH w.heap.size (.deferred (some [])) • G) := H4.turn rfl rfl rfl (by simp) (World.putObj_heap_same H4.lt) fun k hk _ => World.putObj_heap_other hk
        refine H5.of_eq ?_
        show _ = (((dH (w.heap.size + 1) (.loop (oH (if j.isNone then .ready else .done) j)) • dH w.heap.size (.deferred (some []))) • A3) • G)
        ac_rfl
      rintro e a3 W3 hp
      cases e with
      | normal => obtain ⟨h1, h2⟩ := fin none W3 _ hp; exact ⟨_, _, h1, _, rfl, .inl ⟨rfl, h2⟩⟩
      | ret => obtain ⟨h1, h2⟩ := fin (some .ret) W3 _ hp; exact ⟨_, _, h1, _, rfl, .inr ⟨rfl, aB.iH .ret h2⟩⟩
      | exit id => obtain ⟨h1, h2⟩ := fin (some (.exit id)) W3 _ hp; exact ⟨_, _, h1, _, rfl, .inr ⟨rfl, aB.iH (.exit id) h2⟩⟩
      | goto l => exact hp.elim
      | panic c => exact hp.elim
      | outgrown => exact hp.elim
  have hcall := hit (w.heap.size + 1) (fun k => Lk .ready none • I k) _ _ VN (H1.of_eq (by
    show _ = (((dH (w.heap.size + 1) (.loop (oH .ready none)) • dH w.heap.size (.deferred (some []))) • I 0) • R)
    ac_rfl))
  obtain ⟨f, first, cap, fn', c, rfl, hf, hn, hb, Yd⟩ := hcall
  refine ⟨w.heap.size + 1, _, _, { target := .fn (.func f) cap.toArray, args := (first ++ [Value.func (.yield (w.heap.size + 1)) #[] #[]]).toArray }, (w.alloc (.deferred (some []))).alloc (.loop (oH .ready none)), f, _, (w.alloc (.deferred (some []))).alloc (.loop (oH .ready none)), ZT, ?_, fun _ _ => trivial, ?_, (fun h => by cases h), PE.2 (Calls.mono Yd ?_)⟩
  · have he := ha.ev hg
    have he2 : a.eval (.const (.func (.yield (w.heap.size + 1)) #[] #[])) = .func (.yield (w.heap.size + 1)) #[] #[] := rfl
    simp [resolve, rangeCall, he, he2, Deferred.ofValue, oH]
  · simp [invoke, callFunc, hf, hb]
    simpa using hn
  · rintro e W2 ⟨v, rfl, hv⟩
    have fin : ∀ (s : LoopState) (j : Option Code) (A : HP), s ≠ .busy → aB w0 W2 ((Lk s j • A) • R) → (Instr.endLoop (w.heap.size + 1)).run P W2 = .ok j (W2.putObj (w.heap.size + 1) (.loop (oH .exhausted j))) ∧
        aB w0 (W2.putObj (w.heap.size + 1) (.loop (oH .exhausted j))) (dH w.heap.size (.deferred (some [])) • A • R) := by
      intro s j A hs H3
      have H4 : aB w0 W2 (dH (w.heap.size + 1) (.loop (oH s j)) • dH w.heap.size (.deferred (some [])) • A • R) := H3.of_eq (by
        show (((dH (w.heap.size + 1) (.loop (oH s j)) • dH w.heap.size (.deferred (some []))) • A) • R) = _
        ac_rfl)
      refine ⟨run_endLoop H4.get.2 hs, ?_⟩
      have H5 : aB w0 (W2.putObj (w.heap.size + 1) (.loop (oH .exhausted j))) (dH (w.heap.size + 1) (.loop (oH .exhausted j)) • dH w.heap.size (.deferred (some [])) • A • R) := H4.turn rfl rfl rfl (by simp) (World.putObj_heap_same H4.lt) fun k hk _ => World.putObj_heap_other hk
      exact H5.right
    have hfit : Fits ⟨N.n, w.heap.size :: N.ds, none⟩ L { a with defers := [{ target := .collected w.heap.size, args := #[] }] ++ a.defers } := ⟨ha.size, by simp [ha.defers, PD], ha.at_⟩
    rcases hv with hv | hv
    · obtain ⟨h1, h2⟩ := fin _ _ _ (by decide) hv
      exact ⟨none, _, h1, hdone _ _ h2 np _ hfit⟩
    · obtain ⟨c, hv⟩ := hv.ng
      obtain ⟨h1, h2⟩ := fin _ _ _ (by decide) hv
      cases c with
      | ret => exact ⟨some .ret, _, h1, wpIn_ret (hret _ _ h2 np _ hfit)⟩
      | exit id => exact ⟨some (.exit id), _, h1, wpIn_exit (Yc id _ _ h2 np _ hfit)⟩
      | _ => exact absurd h2.swap.fact.1 id
end
end Go.Proofs.YtgndbccogcofjaaGreatDoor
end
section
namespace Go.Proofs.YtgndbccogcofjaaGreatDoor
open Go.RowKit
open _root_.Go.Proofs.Tryz
def jE (G : List (List fB)) (N : List fB) : List (List fB) := if N = [] then G else G ++ [N]
theorem LC {G : List (List fB)} {N : List fB} (h : N = []) : jE G N = G := by unfold jE; rw [if_pos h]
theorem nI {G : List (List fB)} {N : List fB} (h : N ≠ []) : jE G N = G ++ [N] := by unfold jE; rw [if_neg h]
theorem DU {G : List (List fB)} {N : List fB} : eY (jE G N) [] = eY G N := by
  unfold jE; split
  · rename_i h; rw [h]
  · simp [eY]
section
variable {w0 w : World} {F : HP} {p : Nat} {G : List (List fB)} {N : List fB} {op : Int} {gv nv v : Value} {gs : List (Value × List dD)} {now es : List dD} {a : Int} {d z : Value} {dl il : List Int}
theorem wV (H : aB w0 w (eX p G N op • F)) : fG prog 218 #[.pointer (some ⟨p, 0, none⟩)] w fun _ w' => aB w0 w' (eX p (jE G N) [] 0 • F) := by
 refine gG func218 ntmps218 ?_
 dsimp only [bf, Nat.reduceAdd]
 refine ay (ay ?_)
 obtain ⟨wU, uP, jP, jy, jd, qR, oG, DJ, DK, Ib, lS⟩ := (H).uO
 refine ah (aN rfl (bM rfl (bG 0 underlying180 rfl sizeOf178 rfl (bG 1 underlying178 rfl sizeOf35 rfl (dX underlying35 rfl (lS).get.2 rfl (aU (jg ((lS.f4).aS) underlying35 rfl) (aU (dF rfl rfl) (aA (aj (aP rfl (fun h1 => ?_) (fun h1 => ?_)))))))))))
 ·(try simp only [aF] at h1)
  have Ye : 0 < jy.length := by omega
  have VO := lS.drew
  have wE := aB.kp (VO.f5.f5.f5.f5.f5)
  refine yI [5, 10] wE rfl (iD 0 rfl wE rfl (iD 1 rfl wE rfl (jS 2 rfl wE rfl (gV 3 rfl wE 0 underlying180 rfl sizeOf178 rfl (gV 4 rfl wE 0 underlying178 rfl sizeOf176 rfl (jB 5 rfl wE (fun W hW => jR underlying176 rfl ((Kp.h hW)).get.2 rfl) (iD 6 rfl wE rfl (jS 7 rfl wE rfl (gV 8 rfl wE 0 underlying180 rfl sizeOf178 rfl (gV 9 rfl wE 1 underlying178 rfl sizeOf35 rfl (jB 10 rfl wE (fun W hW => jR underlying35 rfl ((Kp.h hW)).get.2 rfl) (kQ 11 rfl (pG (vs := [_]) VO underlying176 sizeOf35 zeroValue35 rfl rfl rfl (by decide) (aC (by first | rfl | exact Rd.one ((VO.f4).aS)) cZ)) ?_))))))))))))
  rintro l2 w2 H2
  have OG := aB.kp (H2.f6.f6.f6.f6.f6.f6)
  refine dZ OG (fun W hW => (Kp.h hW).right.f5.f5.f5.f5.f5) ?_
  refine kQ 12 rfl (iR H2.f3 underlying176 (show (prog.info? 35).map (fun i => (i.zero, i.size, i.bytes)) = some (some (.slice none 0 0), 1, 24) by kernel_rfl) rfl rfl rfl ((H2).aS) (aC (by first | rfl | exact Rd.one ((H2.f5).aS)) cZ) (by omega) (by omega)) ?_
  rintro l3 w3 H3
  have ZU := H3.f2.right
  have xW := aB.kp (ZU.f5.f5.f5.f5.f5)
  refine gB xW (by kernel_rfl) ?_
  refine jS 13 rfl xW rfl (gV 14 rfl xW 0 underlying180 rfl sizeOf178 rfl (gV 15 rfl xW 0 underlying178 rfl sizeOf176 rfl ?_))
  refine gI 16 rfl (by kernel_rfl) (aT 0 (l' := [_, _, _, _, _]) ZU.f2 sizeOf176 rfl rfl (by first | rfl | exact Rd.one ((ZU).aS)) rfl rfl) ?_
  rintro _ w5 H5
  have LD := aB.kp (H5.f5.f5.f5.f5.f5)
  refine gB LD (by kernel_rfl) ?_
  refine qQ (aj (ah (aN rfl (aN rfl (bM rfl (bG 0 underlying180 rfl sizeOf178 rfl (bG 1 underlying178 rfl sizeOf35 rfl (aJ (aT 1 (l' := [_, _, _, _, _]) H5 sizeOf35 rfl rfl (by first | rfl | assumption) rfl rfl) ?_))))))))
  rintro _ w6 H6
  refine bM rfl (bG 0 underlying180 rfl sizeOf178 rfl (bG 2 underlying178 rfl sizeOf3 rfl (aJ (aT 2 (l' := [_, _, _, _, _]) H6 sizeOf3 rfl rfl (by first | rfl | assumption) rfl rfl) ?_)))
  rintro _ w7 H7
  refine aA (gU (.inr rfl) results218 ?_)
  have hN : N ≠ [] := by rintro rfl; exact absurd DK (by simp only [List.length_nil]; omega)
  rw [nI hN]
  have X := aB.rQ (v := uP) (es := jy) (H7.f3.f3.f5.f5).deep
  have X4 := aB.uN X.swap
  refine aB.qH (gv := l3) (nv := .slice none 0 0) (gs := jP ++ [(uP, jy)]) (now := []) (ed := (eY G N : Nat)) ⟨Np jd.1 hN, by rw [← nI hN, DU]; exact jd.2.1, by decide, by decide, JB jd.2.2.2.2.1 jd.2.2.2.2.2, by simp⟩ (by rw [List.map_append, qR, ← oG]; rfl) rfl (by rw [← nI hN, DU]) ((X4.qx none).of_eq (by ac_rfl))
 ·(try simp only [aF] at h1)
  have Ye : jy.length = 0 := by omega
  refine aO (aj (ah (aN rfl (aN rfl (bM rfl (bG 0 underlying180 rfl sizeOf178 rfl (bG 1 underlying178 rfl sizeOf35 rfl (aJ (aT 1 (l' := [_, _, _, _, _]) lS sizeOf35 rfl rfl (by first | rfl | assumption) rfl rfl) ?_))))))))
  rintro _ w8 H8
  refine bM rfl (bG 0 underlying180 rfl sizeOf178 rfl (bG 2 underlying178 rfl sizeOf3 rfl (aJ (aT 2 (l' := [_, _, _, _, _]) H8 sizeOf3 rfl rfl (by first | rfl | assumption) rfl rfl) ?_)))
  rintro _ w9 H9
  refine aA (gU (.inr rfl) results218 ?_)
  have hN : N = [] := by rw [← oG, List.eq_nil_of_length_eq_zero Ye]; rfl
  subst hN
  rw [LC rfl]
  refine aB.qH (gv := wU) (nv := .slice none 0 0) (gs := jP) (now := []) (ed := (eY G [] : Nat)) ⟨jd.1, jd.2.1, by decide, by decide, jd.2.2.2.2⟩ qR rfl rfl (((H9.f4.right.f4.right.f3.f3).qx none).of_eq (by unfold zC; ac_rfl))
theorem aB.Ii (H : aB w0 w (zW v es • F)) : aB w0 w (zW v es • zW v es • F) := H.CG
theorem OH (b : Nat) : Iter prog w0 (.func (.func 253) #[] #[.pointer (some ⟨b, 0, none⟩)]) (dH b (.cells #[v] 35 (0, 0)) • zW v es) es.length
  (fun k vs A => vs = [.int .i64 ((es.length - (k + 1) : Nat) : Int), .agg (es.getD (es.length - (k + 1)) default).enc.toArray] ∧ A = zW v es) := by
 intro l J X w hy H
 refine ⟨253, [], [.pointer (some ⟨b, 0, none⟩)], _, _, rfl, func253, rfl, rfl, ?_⟩
 have H1 : aB w0 w (dH b (.cells #[v] 35 (0, 0)) • zW v es • J 0) := H.of_eq (by ac_rfl)
 obtain ⟨a, c, hv, hc1, hc2, _⟩ := (H1.swap.yO).form
 subst hv
 simp only [List.nil_append, List.cons_append]
 refine gG func253 ntmps253 ?_
 dsimp only [bf, Nat.reduceAdd]
 refine ay (ah (dX underlying35 rfl (H1).get.2 rfl (aU (jg ((H1.f2).yO) underlying35 rfl) (aU (iP rfl rfl (by omega)) (aV rfl (aA (aj (bF ?_))))))))
 refine gQ [(0, _), (1, _)] (fun (k : Nat) => [(3, .int .i64 ((k : Int) - 1))]) (fun (k : Nat) W => k ≤ es.length ∧ aB w0 W (dH b (.cells #[.slice a es.length c] 35 (0, 0)) • zW (.slice a es.length c) es • J (es.length - k))) (fun (k : Nat) => k) (es.length) (Sub.cons rfl (Sub.cons rfl (Sub.nil _))) (Sub.cons rfl (Sub.nil _)) ⟨by omega, by rw [Nat.sub_self]; exact H1⟩ ?_
 rintro k w1 ⟨hk, HL⟩
 dsimp only [List.cons_append, List.nil_append]
 refine ay (ay (ah (aN rfl (aU (jh rfl rfl) (aA (aj (aP rfl (fun h1 => ?_) (fun h1 => ?_))))))))
 ·(try simp only [aF] at h1)
  try (exfalso; first | contradiction | omega)
  all_goals
   refine aO (aj (ay (bF (ay ?_))))
   obtain ⟨m, rfl⟩ : ∃ m, k = m + 1 := ⟨k - 1, by omega⟩
   rw [show (((m + 1 : Nat) : Int) - 1) = (m : Int) from by omega]
   refine ah (aN rfl (aN rfl (dX underlying35 rfl (HL).get.2 rfl (aN rfl ?_))))
   obtain ⟨bv, ov, cv, ev⟩ := Rd.zn ((HL.f2).yO) (by omega)
   cases ev
   refine aU (gX underlying35 sizeOf101 rfl rfl (by omega)) (aU (lq (ys := [_, _, _]) ((HL.f2).yO) (by omega) underlying101 rfl sizeOf101 rfl (pV dD.zA (by omega) default) rfl) (iy (Ih rfl rfl (hy (es.length - (m + 1)) (by omega) _ _ ⟨by rw [show es.length - (es.length - (m + 1) + 1) = m from by omega]; rfl, rfl⟩ (zW (.slice (some ⟨bv, ov, none⟩) es.length c) es • dH b (.cells #[.slice (some ⟨bv, ov, none⟩) es.length c] 35 (0, 0))) _ (HL.swap.Ii.of_eq (by ac_rfl))).bool) ?_))
   rintro _ w2 ⟨t, rfl, ht1, ht2⟩
   refine aU (jY rfl) (aA (aj (aP rfl (fun h2 => ?_) (fun h2 => ?_))))
   ·(try simp only [aF] at h2)
    try (exfalso; first | contradiction | omega)
    all_goals
     have HX := ht2 (by simpa using h2)
     refine aI (aY (aK (aK (aY (gU (.inl rfl) results253 ?_)))))
     exact .inr (HX.of_eq (by ac_rfl))
   ·(try simp only [aF] at h2)
    try (exfalso; first | contradiction | omega)
    all_goals
     have HN : aB w0 w2 (dH b (.cells #[.slice (some ⟨bv, ov, none⟩) es.length c] 35 (0, 0)) • zW (.slice (some ⟨bv, ov, none⟩) es.length c) es • J (es.length - m)) := by
      have h9 := ht1 (by simpa using h2)
      rw [show es.length - (m + 1) + 1 = es.length - m from by omega] at h9
      exact h9.of_eq (by ac_rfl)
     refine aO (aQ (aj (ah (aN rfl (aU (iP rfl rfl (by omega)) (aV rfl (aA ?_)))))))
     refine eG (m) ?_ ?_ ?_ ?_
     ·exact (Sub.cons rfl (Sub.nil _))
     ·exact (Sub.cons rfl (Sub.cons rfl (Sub.nil _)))
     ·(try dsimp only)
      first | done | exact ⟨by omega, HN.f2.f2⟩
     ·(try dsimp only); omega
 ·(try simp only [aF] at h1)
  try (exfalso; first | contradiction | omega)
  all_goals
   refine eU (aZ (aZ (bK (gU (.inr rfl) results253 ?_))))
   obtain rfl : k = 0 := by omega
   rw [Nat.sub_zero] at HL
   exact .inl (HL.of_eq (by ac_rfl))
end
end Go.Proofs.YtgndbccogcofjaaGreatDoor
end
section
namespace Go.Proofs.YtgndbccogcofjaaGreatDoor
open Go.RowKit
open _root_.Go.Proofs.Tryz
def DV (e : fB) : fB := (e.1, e.2.2, e.2.1)
def Qw (c : Nat) (es : List dD) (k : Nat) : HP := tN fun (x : Value × List dD) => fact (x.2.map dD.says = ((es.map dD.says).reverse.take k).map DV) • dH c (.cells #[x.1] 35 (0, 0)) • Fh x.1 x.2
theorem Qx {es : List dD} {k : Nat} (hk : k < es.length) : ((es.map dD.says).reverse.take (k + 1)).map DV = ((es.map dD.says).reverse.take k).map DV ++ [DV (es.getD (es.length - (k + 1)) default).says] := by
  rw [List.take_succ_eq_append_getElem (by simpa using hk), List.map_append]
  congr 1
  simp only [List.map_cons, List.map_nil, List.getElem_reverse, List.getElem_map, List.length_map]
  rw [List.getD_eq_getElem?_getD, List.getElem?_eq_getElem (by omega)]
  have e : es.length - 1 - k = es.length - (k + 1) := by omega
  simp only [Option.getD_some, e]
section
variable {w0 w : World} {F : HP} {p : Nat} {G : List (List fB)} {N : List fB} {op : Int} {gv nv v : Value} {gs : List (Value × List dD)} {now es : List dD} {a : Int} {d z : Value} {dl il : List Int}
theorem aB.JG {c k : Nat} (H : aB w0 w (Qw c es k • F)) : ∃ u fs, fs.map dD.says = ((es.map dD.says).reverse.take k).map DV ∧ fs.length ≤ es.length ∧ aB w0 w (dH c (.cells #[u] 35 (0, 0)) • Row 101 3 u fs.length (fs.flatMap dD.enc) • jH fs • F) := by
  obtain ⟨⟨u, fs⟩, H⟩ := H.ng
  obtain ⟨h, H⟩ := H.flat.fact
  refine ⟨u, fs, h, ?_, ?_⟩
  · have := congrArg List.length h
    simp at this
    omega
  · have := H.flat
    unfold Fh at this
    exact this.of_eq (by ac_rfl)
theorem aB.Qy {c k : Nat} {u : Value} {fs : List dD} (h : fs.map dD.says = ((es.map dD.says).reverse.take k).map DV) (H : aB w0 w (dH c (.cells #[u] 35 (0, 0)) • Fh u fs • F)) : aB w0 w (Qw c es k • F) :=
  aB.iH (u, fs) (aB.deep (aB.kE h H.deep))
theorem aB.VP (H : aB w0 w (zW v es • F)) {k : Nat} (hk : k < es.length) : aB w0 w (Dc .i32 (es.getD k default).d (es.getD k default).dl • Dc .i32 (es.getD k default).i (es.getD k default).il • zW v es • F) := by
  have h1 : aB w0 w (Dc .i32 (es.getD k default).d (es.getD k default).dl • zW v es • zW v es • F) := H.Ii.Ii.ES (uG (fun I h => (h.2 k hk).1) _)
  have h2 : aB w0 w (Dc .i32 (es.getD k default).i (es.getD k default).il • Dc .i32 (es.getD k default).d (es.getD k default).dl • zW v es • F) := h1.swap.ES (uG (fun I h => (h.2 k hk).2) _)
  exact h2.swap
theorem OI (H : aB w0 w F) (hv : v.oneCell' = true) : fG prog 240 #[v] w fun v' w' => ∃ b, v' = .func (.func 253) #[] #[.pointer (some ⟨b, 0, none⟩)] ∧ aB w0 w' (dH b (.cells #[v] 35 (0, 0)) • F) := by
 refine gG func240 ntmps240 ?_
 dsimp only [bf, Nat.reduceAdd]
 refine ay (ah (iy (jo (l := [_]) H rfl (by first | rfl | exact Ad (by first | rfl | assumption))) ?_))
 rintro _ w1 ⟨b1, rfl, H1⟩
 refine aV rfl (aA (aj (ay (ah (aU (vG rfl rfl) (aV rfl (aA (aj (aI (aH (.inl rfl) results240 rfl ?_))))))))))
 exact ⟨_, rfl, H1⟩
theorem zG (H : aB w0 w (zW v es • F)) (hB : ∀ k, k < es.length → EB (es.getD k default).says) (hL : es.length ≤ 16384) :
  fG prog 219 #[v] w fun v' w' => ∃ fs : List dD, fs.map dD.says = (es.map dD.says).reverse.map DV ∧ aB w0 w' (Row 101 3 v' fs.length (fs.flatMap dD.enc) • jH fs • zW v es • F) := by
 refine gG func219 ntmps219 ?_
 dsimp only [bf, Nat.reduceAdd]
 refine ay (ah (aV rfl (aA (aj (ay (ah (iy (gY (l := [_]) H zeroValue35 rfl) ?_)))))))
 rintro _ w1 ⟨b1, rfl, H1⟩
 refine aA (aj (ay (ay (ah (aN rfl (bW rfl func240 (OI H1 (Rd.one ((H1.f2).yO))) ?_))))))
 rintro _ w2 ⟨bB2, rfl, H2⟩
 refine aA (aj (bF ?_))
 have Ho3 := H2.f2
 have Hc4 := aB.Qy (es := es) (k := 0) (fs := []) rfl (Ho3.qx none).swap
 refine vS rfl (OH bB2) (fun k => Qw b1 es k • F) (fact False) (fun _ => fact False) (Hc4.f3.f3.f3.f3.f3.g2.comm) (by rfl) ?_ ?_ ?_ ?_
 ·rintro l5 k VQ vs5 A5 ⟨rfl, rfl⟩ G5 w5 H5
  try simp only [cO, jQ, qW] at H5
  refine ⟨rfl, ?_⟩
  dsimp only [Lu]
  have Hq := (H5).VP (k := es.length - (k + 1)) (by omega)
  obtain ⟨hb1, hb2⟩ := hB (es.length - (k + 1)) (by omega)
  have hb1 : (es.getD (es.length - (k + 1)) default).dl.length ≤ 35184372087808 := hb1
  have hb2 : (es.getD (es.length - (k + 1)) default).il.length ≤ 35184372087808 := hb2
  obtain ⟨u, fs, hfs, hfl, HI⟩ := (Hq.f4).JG
  refine ah (iy (gY (l := [_, _, _]) HI zeroValue101 rfl) ?_)
  rintro _ w6 ⟨b6, rfl, H6⟩
  refine aJ (dG 0 (l' := [_, _, _]) (us := [_, _, _]) H6 sizeOf101 rfl rfl rfl (aC (by first | rfl | assumption) (aC (by first | rfl | exact Rd.one ((H6.f5).GX)) (aC (by first | rfl | exact Rd.one ((H6.f6).GX)) cZ))) rfl rfl) ?_
  rintro _ w7 H7
  refine aA ?_
  refine Ls (H7.g8) ?_
  intro G8 w8 H8
  try simp only [cO] at H8
  refine bF ?_
  have Yf := H8.drew
  have Qz := aB.kp (Yf.f7.f7.f7.f7.f7.f7.f7)
  refine yI [0, 1] Qz rfl (jB 0 rfl Qz (fun W hW => jR underlying35 rfl ((Kp.h hW).f2).get.2 rfl) (jB 1 rfl Qz (fun W hW => dn underlying101 rfl sizeOf101 rfl rfl ((Kp.h hW)).get.2) (kQ 2 rfl (wJ rfl func241 (Ak Yf (fun W HW => (HW.f5).GX) (fun W HW => (HW.f6).GX) (by omega) (by omega))) ?_)))
  rintro _ w9 ⟨d9, s9, rfl, H9⟩
  have Lm := aB.kp (H9.f9.f9.f9.f9.f9.f9.f9.f9.f9)
  refine dZ Lm (fun W hW => (Kp.h hW).right.right.f7.f7.f7.f7.f7.f7.f7) ?_
  refine kQ 3 rfl (rF H9 underlying35 sizeOf101 zeroValue101 rfl rfl rfl (by decide) (by decide)) ?_
  rintro l10 w10 oZ
  have Gf := aB.kp (oZ.f10.f10.f10.f10.f10.f10.f10.f10.f10.f10)
  refine dZ Gf (fun W hW => (Kp.h hW).right.f9.f9.f9.f9.f9.f9.f9.f9.f9) ?_
  refine kQ 4 rfl (iR oZ.f6 underlying35 (show (prog.info? 101).map (fun i => (i.zero, i.size, i.bytes)) = some (some (.agg #[.int .i64 0, .slice none 0 0, .slice none 0 0]), 3, 56) by kernel_rfl) rfl rfl rfl ((oZ).aS) (aC (by first | rfl | assumption) (aC (by first | rfl | exact Rd.one ((oZ.f2).aS)) (aC (by first | rfl | exact Rd.one ((oZ.f3).aS)) cZ))) (by omega) (by omega)) ?_
  rintro l11 KG yt
  have LG := yt.f2.right
  have zF := aB.kp (LG.f9.f9.f9.f9.f9.f9.f9.f9.f9)
  refine gB zF (by kernel_rfl) ?_
  refine gI 5 rfl (by kernel_rfl) (aT 0 (l' := [_]) LG.f5 sizeOf35 rfl rfl (by first | rfl | exact Rd.one ((LG).aS)) rfl rfl) ?_
  rintro _ Po xE
  have yw := aB.kp (xE.f9.f9.f9.f9.f9.f9.f9.f9.f9)
  refine gB yw (by kernel_rfl) ?_
  refine qQ (aQ ?_)
  refine DT ?_
  have X := (xE.f5.right.f6.right.f6.right.f6.right.f6.f2.f6.f4.f6.f6).kF.swap.kF.swap
  have X2 := aB.uM X.f3
  exact (aB.Qy (es := es) (k := k + 1) (by rw [List.map_append, hfs, Qx (by omega)]; rfl) X2.swap).deep
 ·rintro D14 MX yK
  have Jw := yK.ed
  try simp only [cO, jQ, qW] at Jw
  have VR := Jw.MO
  obtain ⟨u, fs, hfs, hfl, HI⟩ := (VR.f4).JG
  refine aQ (aj (ay (ah (dX underlying35 rfl (HI).get.2 rfl (aV rfl (aA (aj (aI ?_))))))))
  refine Cb (.inl rfl) (HI.f4) (fun Pq yu => ?_)
  refine ⟨_, Vp results219 rfl, ?_⟩
  rw [List.take_of_length_le (by simp)] at hfs
  exact ⟨_, hfs, yu.right.f3.right.f3.f3.f3⟩
 ·rintro D w H; exact absurd H.swap.fact.1 id
 ·rintro id D w H; exact absurd H.swap.fact.1 fun h => h
end
end Go.Proofs.YtgndbccogcofjaaGreatDoor
end
section
namespace Go.Proofs.YtgndbccogcofjaaGreatDoor
open Go.RowKit
open _root_.Go.Proofs.Tryz
def QA (G : List (List fB)) (N : List fB) : Int := if G.length + N.length = 0 then 6 else 0
def Ns (G : List (List fB)) (N : List fB) : List (List fB) := if G.length + N.length = 0 then G else (jE G N).dropLast
def Nu (G : List (List fB)) (N : List fB) : List fB := if G.length + N.length = 0 then N else []
def Nv (G : List (List fB)) (N : List fB) (op : Int) : Int := if G.length + N.length = 0 then op else 0
def UO (G : List (List fB)) (N : List fB) : List fB := if G.length + N.length = 0 then [] else ((jE G N).getLastD []).reverse.map DV
theorem Gg {G : List (List fB)} {g N : List fB} : eY (G ++ [g]) N = eY G N + g.length := by simp [eY]; omega
section
variable {w0 w : World} {F : HP} {p : Nat} {G : List (List fB)} {N : List fB} {op : Int} {gv nv v : Value} {gs : List (Value × List dD)} {now es : List dD} {a : Int} {d z : Value} {dl il : List Int}
theorem LH (h : ¬ G.length + N.length = 0) : jE G N ≠ [] := by
  unfold jE; split
  · rename_i hN; rintro rfl; subst hN; exact h rfl
  · simp
theorem aB.LJ (H : aB w0 w (eX p G [] op • F)) (hG : G ≠ []) : ∃ gv nv hs gl vT, G = hs.map (fun g => g.2.map dD.says) ++ [vT.map dD.says] ∧ TG G [] op ∧ G.length = hs.length + 1 ∧ hs.length ≤ 16384 ∧ vT.length ≤ 16384 ∧ (∀ k, k < vT.length → EB (vT.getD k default).says) ∧
    aB w0 w (dH p (.cells #[gv, nv, .int .i64 op, .int .i64 (eY G [] : Nat), .bool true] 180 (0, 0)) • Row 35 1 gv (hs.length + 1) (hs.map (·.1) ++ [gl]) • nZ hs • zW gl vT • Fh nv [] • F) := by
  obtain ⟨gv, nv, gs, now, h1, h2, h3, h4, h5, h6, H⟩ := H.uO
  obtain rfl : now = [] := List.eq_nil_of_length_eq_zero (by simpa using h5)
  rcases List.eq_nil_or_concat gs with rfl | ⟨hs, ⟨gl, vT⟩, rfl⟩
  · exact absurd h2.symm hG
  · have hG2 : G = hs.map (fun g => g.2.map dD.says) ++ [vT.map dD.says] := by rw [← h2]; simp
    have hle : vT.length ≤ 16384 := by
      have := h1.2.1
      rw [hG2, Gg] at this
      simp at this
      omega
    refine ⟨gv, nv, hs, gl, vT, hG2, h1, ?_, ?_, hle, fun k hk => ?_, ?_⟩
    · rw [hG2]; simp
    · rw [hG2] at h6; simp at h6; omega
    · refine h1.2.2.2.2.1 (vT.map dD.says) (by rw [hG2]; simp) _ ?_
      rw [List.getD_eq_getElem?_getD, List.getElem?_eq_getElem hk]
      exact List.mem_map_of_mem (List.getElem_mem hk)
    · rw [List.concat_eq_append, List.length_append, List.map_append] at H
      have H1 := (H.f3.JA (k := hs.length) (by simp)).swap
      rw [show (hs ++ [(gl, vT)]).getD hs.length default = (gl, vT) from by simp [List.getD_eq_getElem?_getD]] at H1
      have H2 := H1.Ql hs.length
      rw [List.take_left' rfl] at H2
      exact H2.of_eq (by unfold Fh; ac_rfl)
theorem yA (H : aB w0 w (eX p G N op • F)) : fG prog 162 #[.pointer (some ⟨p, 0, none⟩)] w fun v w' => ∃ u, ∃ fs : List dD, v = .tuple #[u, .int .i64 (QA G N)] ∧ fs.map dD.says = UO G N ∧
  aB w0 w' (Row 101 3 u fs.length (fs.flatMap dD.enc) • jH fs • eX p (Ns G N) (Nu G N) (Nv G N op) • F) := by
 unfold QA UO Ns Nu Nv
 refine gG func162 ntmps162 ?_
 dsimp only [bf, Nat.reduceAdd]
 refine ay (ah (aV rfl (aV rfl (aA (aj (ay (ay (ah (aN rfl (bW rfl func181 (ji H) ?_))))))))))
 rintro _ _ ⟨rfl, rfl⟩
 refine aA (aj (mO (aO (aj (ay (ay ?_))))))
 obtain ⟨wU, uP, jP, jy, jd, qR, oG, DJ, DK, Ib, lS⟩ := (H).uO
 have JH := lS.drew
 have jk := aB.kp (JH.f5.f5.f5.f5.f5)
 refine yI [4, 10] jk rfl (iD 0 rfl jk rfl (jS 1 rfl jk rfl (gV 2 rfl jk 0 underlying180 rfl sizeOf178 rfl (gV 3 rfl jk 0 underlying178 rfl sizeOf176 rfl (jB 4 rfl jk (fun W hW => jR underlying176 rfl ((Kp.h hW)).get.2 rfl) (jr 5 rfl jk (fun _ => jg ((JH.f2).aS) underlying176 rfl) (iD 6 rfl jk rfl (jS 7 rfl jk rfl (gV 8 rfl jk 0 underlying180 rfl sizeOf178 rfl (gV 9 rfl jk 1 underlying178 rfl sizeOf35 rfl (jB 10 rfl jk (fun W hW => jR underlying35 rfl ((Kp.h hW)).get.2 rfl) (jr 11 rfl jk (fun _ => jg ((JH.f4).aS) underlying35 rfl) (jr 12 rfl jk (fun _ => fC rfl rfl (by omega)) (jr 13 rfl jk (fun _ => fE rfl rfl) (qQ (aj (aP rfl (fun h1 => ?_) (fun h1 => ?_))))))))))))))))))
 ·(try simp only [aF] at h1)
  have Za : G.length + N.length = 0 := by omega
  have Qm := JH.f5.f5.f5.f5.f5
  have Qn := aB.jU jd qR oG rfl Qm
  refine ay (ah (aV rfl (aV rfl (aA (aj (aI (aK (mW (.inl rfl) results162 rfl rfl ?_))))))))
  simp only [if_pos Za]
  exact ⟨_, [], rfl, rfl, ((Qn).qx none).Xk⟩
 ·(try simp only [aF] at h1)
  have Za : ¬ G.length + N.length = 0 := by omega
  have VT := JH.f5.f5.f5.f5.f5
  have VU := aB.jU jd qR oG rfl VT
  refine aO (aj (ay (ah (aN rfl (bW rfl func218 (wV VU) ?_)))))
  rintro _ w9 H9
  refine aA (aj (ay ?_))
  obtain ⟨gv, nv, hs, gl, vT, hG, hok, hl1, hl2, hl3, hEB, HU⟩ := (H9).LJ (LH Za)
  have htot := hok.2.1
  refine ah (aN rfl (bM rfl (bG 0 underlying180 rfl sizeOf178 rfl (bG 0 underlying178 rfl sizeOf176 rfl (dX underlying176 rfl (HU).get.2 rfl (aU (jg ((HU.f2).aS) underlying176 rfl) (aU (iP rfl rfl (by omega)) (aV rfl (aA (aj (ay (ah (aN rfl (bM rfl (bG 0 underlying180 rfl sizeOf178 rfl (bG 0 underlying178 rfl sizeOf176 rfl (dX underlying176 rfl (HU).get.2 rfl (aN rfl ?_))))))))))))))))))
  obtain ⟨bgv, ogv, cgv, egv⟩ := Rd.zn ((HU.f2).aS) (by omega)
  cases egv
  refine aU (gX underlying176 sizeOf35 rfl rfl (by omega)) ?_
  refine aU (kU (dB underlying35 rfl) rfl (by first | exact Rd.GV ((HU.f2).aS) (by omega) | exact Rd.UD ((HU.f2).aS) (by omega) | exact Rd.SK ((HU.f2).aS) (by omega))) ?_
  rw [show (hs.map (·.1) ++ [gl]).getD ((((hs.length + 1 : Nat)) : Int) - 1).toNat undef = gl from by rw [show ((((hs.length + 1 : Nat)) : Int) - 1).toNat = hs.length from by omega]; simp [List.getD_eq_getElem?_getD]]
  refine aV rfl (aA (aj (ay (ah (aN rfl (aN rfl (bM rfl (bG 0 underlying180 rfl sizeOf178 rfl (bG 0 underlying178 rfl sizeOf176 rfl (dX underlying176 rfl (HU).get.2 rfl (aN rfl (aU (uF ((HU.f2).aS) underlying176 sizeOf35 rfl rfl rfl (by omega)) (bM rfl (bG 0 underlying180 rfl sizeOf178 rfl (bG 0 underlying178 rfl sizeOf176 rfl (aJ (aT 0 (l' := [_, _, _, _, _]) HU sizeOf176 rfl rfl (by first | rfl | exact Rd.one (Rd.X6 ((HU.f2).aS) (by omega))) rfl rfl) ?_))))))))))))))))
  rintro _ w10 oZ
  refine aA (aj (ay (ah (aN rfl (bM rfl (bG 0 underlying180 rfl sizeOf178 rfl (bG 3 underlying178 rfl sizeOf3 rfl (dX underlying3 rfl (oZ).get.2 rfl (aN rfl (aU (jg ((oZ.f4).yO) underlying35 rfl) (aU (iP rfl rfl (by omega)) (bM rfl (bG 0 underlying180 rfl sizeOf178 rfl (bG 3 underlying178 rfl sizeOf3 rfl (aJ (aT 3 (l' := [_, _, _, _, _]) oZ sizeOf3 rfl rfl (by first | rfl | assumption) rfl rfl) ?_)))))))))))))))
  rintro _ KG yt
  refine aA (aj (ay (ah (aN rfl (bW rfl func219 (zG yt.f4 hEB hl3) ?_)))))
  rintro Y5 w12 ⟨QB, UQ, xR⟩
  refine aV rfl (aV rfl (aA (aj (aI (mW (.inl rfl) results162 rfl rfl ?_)))))
  simp only [if_neg Za]
  have hdl : (jE G N).dropLast = hs.map (fun g => g.2.map dD.says) := by rw [hG]; simp
  have hlast : (jE G N).getLastD [] = vT.map dD.says := by rw [hG]; simp
  have hX := (xR.f3.right.f6.f6.f5.f5.f5.f6).PN (h := hs.length) (by omega)
  rw [hdl, hlast]
  rw [Nat.mul_one, List.take_left' (by simp), show (((hs.length + 1 : Nat) : Int) - 1).toNat = hs.length from by omega, show Int.toNat 0 = 0 from rfl] at hX
  have hT : eY (jE G N) [] = eY (hs.map (fun g => g.2.map dD.says)) [] + vT.length := by rw [hG, Gg, List.length_map]
  have hok2 : TG (hs.map (fun g => g.2.map dD.says)) [] 0 := ⟨fun g hg => hok.1 g (by rw [hG]; exact List.mem_append_left _ hg), by omega, by decide, by decide, fun g hg => hok.2.2.2.2.1 g (by rw [hG]; exact List.mem_append_left _ hg), by simp⟩
  refine ⟨_, _, rfl, (by assumption), ?_⟩
  have hU := aB.qH (gv := ni 1 0 hs.length (.slice (some ⟨bgv, ogv, none⟩) (hs.length + 1) cgv)) (nv := nv) (gs := hs) (now := []) (ed := (eY (jE G N) [] : Nat) - (vT.length : Int)) (F := Row 101 3 Y5 QB.length (QB.flatMap dD.enc) • jH QB • F) hok2 rfl rfl (by omega) (hX.of_eq (by unfold zC; ac_rfl))
  exact hU.of_eq (by ac_rfl)
end
end Go.Proofs.YtgndbccogcofjaaGreatDoor
end
section
namespace Go.Proofs.YtgndbccogcofjaaGreatDoor
open Go.RowKit
open _root_.Go.Proofs.Tryz
def mG (op : Int) : Int := if op = 0 then 1 else 0
def VW (G : List (List fB)) (N : List fB) (op : Int) : List (List fB) := if op = 1 then jE G N else G
def VX (N : List fB) (op : Int) : List fB := if op = 1 then [] else N
def TI (op : Int) : Int := if op = 0 then 0 else op - 1
theorem OJ {es : List dD} {k : Nat} (hk : k < es.length) : (es.take (k + 1)).map dD.says = (es.take k).map dD.says ++ [(es.getD k default).says] := by
  rw [List.take_succ_eq_append_getElem hk, List.map_append, List.getD_eq_getElem?_getD, List.getElem?_eq_getElem hk]
  rfl
section
variable {w0 w : World} {F : HP} {p : Nat} {G : List (List fB)} {N : List fB} {op : Int} {gv nv v : Value} {gs : List (Value × List dD)} {now es : List dD} {a : Int} {d z : Value} {dl il : List Int}
theorem vU (H : aB w0 w (eX p G N op • F)) : fG prog 165 #[.pointer (some ⟨p, 0, none⟩)] w fun v w' => v = .int .i64 (mG op) ∧ aB w0 w' (eX p (VW G N op) (VX N op) (TI op) • F) := by
 unfold mG VW VX TI
 refine gG func165 ntmps165 ?_
 dsimp only [bf, Nat.reduceAdd]
 refine ay (ah (aV rfl (aA (aj (ay (ay (ah (aN rfl (bW rfl func181 (ji H) ?_)))))))))
 rintro _ _ ⟨rfl, rfl⟩
 refine aA (aj (mO (aO (aj (ay (ay ?_))))))
 obtain ⟨wU, uP, jP, jy, jd, qR, oG, DJ, DK, Ib, lS⟩ := (H).uO
 have hop := jd.2.2.1
 have hop2 := jd.2.2.2.1
 refine ah (aN rfl (bM rfl (bG 0 underlying180 rfl sizeOf178 rfl (bG 2 underlying178 rfl sizeOf3 rfl (dX underlying3 rfl (lS).get.2 rfl (aU (fE rfl rfl) (aA (aj (aP rfl (fun h1 => ?_) (fun h1 => ?_))))))))))
 ·(try simp only [aF] at h1)
  have h0 : op = 0 := by omega
  refine ay (ah (aV rfl (aA (aj (aI (aK (aH (.inl rfl) results165 rfl ?_)))))))
  have Qm := lS.f5.f5.f5.f5.f5
  have Qn := aB.jU jd qR oG rfl Qm
  subst h0
  exact ⟨rfl, Qn⟩
 ·(try simp only [aF] at h1)
  have h0 : ¬ op = 0 := by omega
  refine aO (aj (ay (ay (ah (aN rfl (bM rfl (bG 0 underlying180 rfl sizeOf178 rfl (bG 2 underlying178 rfl sizeOf3 rfl (dX underlying3 rfl (lS).get.2 rfl (aU (iP rfl rfl (by omega)) (bM rfl (bG 0 underlying180 rfl sizeOf178 rfl (bG 2 underlying178 rfl sizeOf3 rfl (aJ (aT 2 (l' := [_, _, _, _, _]) lS sizeOf3 rfl rfl (by first | rfl | assumption) rfl rfl) ?_))))))))))))))
  rintro _ w6 H6
  refine aA (aj (ay (ah (aN rfl (bM rfl (bG 0 underlying180 rfl sizeOf178 rfl (bG 2 underlying178 rfl sizeOf3 rfl (dX underlying3 rfl (H6).get.2 rfl (aU (fE rfl rfl) (aA (aj (aP rfl (fun h2 => ?_) (fun h2 => ?_)))))))))))))
  ·(try simp only [aF] at h2)
   have h1 : op = 1 := by omega
   have VT := H6.f5.f5.f5.f5.f5
   have VU := aB.jU (op := op - 1) ⟨jd.1, jd.2.1, by omega, by omega, jd.2.2.2.2⟩ qR oG rfl VT
   refine ah (aN rfl (bW rfl func218 (wV VU) ?_))
   rintro _ w9 H9
   refine aA (aj (ay (ah (aV rfl (aA (aj (aI (aH (.inl rfl) results165 rfl ?_))))))))
   subst h1
   exact ⟨rfl, H9⟩
  ·(try simp only [aF] at h2)
   have h1 : ¬ op = 1 := by omega
   refine aO (aj (ay (ah (aV rfl (aA (aj (aI (aH (.inl rfl) results165 rfl ?_))))))))
   rw [if_neg h0, if_neg h1, if_neg h1, if_neg h0]
   exact ⟨rfl, aB.jU ⟨jd.1, jd.2.1, by omega, by omega, jd.2.2.2.2⟩ qR oG rfl H6.f5.f5.f5.f5.f5⟩
theorem DW (H : aB w0 w F) (hv : KF w0 F 3 v es.length (es.flatMap dD.enc)) (he : ∀ k, k < es.length → iI w0 F .i32 (es.getD k default).d (es.getD k default).dl ∧ iI w0 F .i32 (es.getD k default).i (es.getD k default).il)
  (hB : ∀ k, k < es.length → EB (es.getD k default).says) (hL : es.length ≤ 16384) :
  fG prog 187 #[v] w fun v' w' => ∃ fs : List dD, fs.map dD.says = es.map dD.says ∧ aB w0 w' (Row 101 3 v' fs.length (fs.flatMap dD.enc) • jH fs • F) := by
 refine gG func187 ntmps187 ?_
 dsimp only [bf, Nat.reduceAdd]
 refine ay (ah (aV rfl (aA (aj (ay (ah (aV rfl (aA (aj (ay (ay (ah (aN rfl (aU (jg (hv _ (H)) underlying35 rfl) (aN rfl (aA (aj (bF ?_))))))))))))))))))
 refine gQ [(6, _), (7, _)] (fun (⟨k, u⟩ : Nat × Value) => [(3, u), (8, .int .i64 (k : Int))]) (fun (⟨k, u⟩ : Nat × Value) W => k ≤ es.length ∧ ∃ fs : List dD, fs.map dD.says = (es.take k).map dD.says ∧ aB w0 W (Row 101 3 u fs.length (fs.flatMap dD.enc) • jH fs • F)) (fun (⟨k, u⟩ : Nat × Value) => es.length - k) ((0, .slice none 0 0)) (Sub.cons rfl (Sub.cons rfl (Sub.nil _))) (Sub.cons rfl (Sub.cons rfl (Sub.nil _))) ⟨by omega, [], rfl, (H.qx none).Xk⟩ ?_
 rintro ⟨k, u⟩ w1 ⟨hk, fs, hfs, HL⟩
 dsimp only [List.cons_append, List.nil_append]
 refine ay (ah (aU (eF rfl rfl) (aA (aj (ay (aP rfl (fun h1 => ?_) (fun h1 => ?_)))))))
 ·(try simp only [aF] at h1)
  try (exfalso; first | contradiction | omega)
  all_goals
   refine aO (aj (ay (bF (ay (ah ?_)))))
   obtain ⟨bv, ov, cv, ev⟩ := Rd.zn (hv _ (HL.right.right)) (by omega)
   cases ev
   refine aU (gX underlying35 sizeOf101 rfl rfl (by omega)) (aU (lq (ys := [_, _, _]) (hv _ (HL.right.right)) (by omega) underlying101 rfl sizeOf101 rfl (pV dD.zA (by omega) default) rfl) ?_)
   have hkl : k < es.length := by omega
   obtain ⟨f1, f2⟩ := he k hkl
   obtain ⟨hb1, hb2⟩ := hB k hkl
   have hb1 : (es.getD k default).dl.length ≤ 35184372087808 := hb1
   have hb2 : (es.getD k default).il.length ≤ 35184372087808 := hb2
   have hfl : fs.length = k := by have h9 := congrArg List.length hfs; simp at h9; omega
   refine iy (gY (l := [_, _, _]) HL zeroValue101 rfl) ?_
   rintro _ w2 ⟨b2, rfl, H2⟩
   refine aJ (dG 0 (l' := [_, _, _]) (us := [_, _, _]) H2 sizeOf101 rfl rfl rfl (aC (by first | rfl | assumption) (aC (by first | rfl | exact Rd.one (f1 _ (H2.right.right.right))) (aC (by first | rfl | exact Rd.one (f2 _ (H2.right.right.right))) cZ))) rfl rfl) ?_
   rintro _ w3 H3
   refine aA (aj (ah (aN rfl (aU (dn underlying101 rfl sizeOf101 rfl rfl (H3).get.2) (bW rfl func220 (ru H3 (fun W HW => f1 _ (HW.right.right.right)) (fun W HW => f2 _ (HW.right.right.right)) (by omega) (by omega)) ?_)))))
   rintro _ w4 ⟨d4, s4, rfl, H4⟩
   refine iy (rF H4 underlying35 sizeOf101 zeroValue101 rfl rfl rfl (by decide) (by decide)) ?_
   rintro l5 w5 H5
   refine iy (iR H5.f5 underlying35 (show (prog.info? 101).map (fun i => (i.zero, i.size, i.bytes)) = some (some (.agg #[.int .i64 0, .slice none 0 0, .slice none 0 0]), 3, 56) by kernel_rfl) rfl rfl rfl ((H5).aS) (aC (by first | rfl | assumption) (aC (by first | rfl | exact Rd.one ((H5.f2).aS)) (aC (by first | rfl | exact Rd.one ((H5.f3).aS)) cZ))) (by omega) (by omega)) ?_
   rintro l6 w6 H6
   have Yg := H6.f2.right
   refine aV rfl (aA (aQ (aj (ah (aU (fC rfl rfl (by omega)) (aN rfl (aA ?_)))))))
   refine eG ((k + 1, l6)) ?_ ?_ ?_ ?_
   ·exact (Sub.cons rfl (Sub.cons rfl (Sub.nil _)))
   ·exact (Sub.cons rfl (Sub.cons rfl (Sub.nil _)))
   ·(try dsimp only)
    first | done | exact ⟨by omega, _, by rw [List.map_append, hfs, OJ (by omega)]; rfl, (aB.uM (Yg.f4.right.f4.f2.f4.f4).kF.swap.kF.swap.f3).Xk⟩
   ·(try dsimp only); omega
 ·(try simp only [aF] at h1)
  try (exfalso; first | contradiction | omega)
  all_goals
   refine eU (aZ (aZ (bK (aj (ay (ah (aN rfl (aV rfl (aA (aj (aI (aH (.inl rfl) results187 rfl ?_))))))))))))
   rw [List.take_of_length_le (by omega)] at hfs
   exact ⟨_, hfs, HL.f2.f2⟩
theorem aB.kV {es : List dD} (H : aB w0 w (jH es • F)) {k : Nat} (hk : k < es.length) : iw w .i32 (es.getD k default).d (es.getD k default).dl ∧ iw w .i32 (es.getD k default).i (es.getD k default).il := let ⟨I, h, hI⟩ := H.vw; ⟨(h k hk).1.rd hI, (h k hk).2.rd hI⟩
theorem wW (H : aB w0 w (Row 101 3 v es.length (es.flatMap dD.enc) • jH es • F)) (hB : ∀ k, k < es.length → EB (es.getD k default).says) (hL : es.length ≤ 16384) :
    fG prog 187 #[v] w fun v' w' => ∃ fs : List dD, fs.map dD.says = es.map dD.says ∧ aB w0 w' (Row 101 3 v' fs.length (fs.flatMap dD.enc) • jH fs • Row 101 3 v es.length (es.flatMap dD.enc) • jH es • F) :=
  DW H (fun W HW => HW.aS) (fun k hk => ⟨fun W HW => (HW.right.kV hk).1, fun W HW => (HW.right.kV hk).2⟩) hB hL
theorem uf (H : aB w0 w (zW v es • F)) (hB : ∀ k, k < es.length → EB (es.getD k default).says) (hL : es.length ≤ 16384) :
    fG prog 187 #[v] w fun v' w' => ∃ fs : List dD, fs.map dD.says = es.map dD.says ∧ aB w0 w' (Row 101 3 v' fs.length (fs.flatMap dD.enc) • jH fs • zW v es • F) :=
  DW H (fun W HW => HW.yO) (fun k hk => ⟨fun W HW => HW.X9 hk, fun W HW => HW.Ya hk⟩) hB hL
end
end Go.Proofs.YtgndbccogcofjaaGreatDoor
end
section
namespace Go.Proofs.YtgndbccogcofjaaGreatDoor
open Go.RowKit
open _root_.Go.Proofs.Tryz
def abU (G : List (List fB)) (N : List fB) : List fB := (jE G N).flatten.reverse.map DV
section
variable {w0 w : World} {F : HP} {p : Nat} {G : List (List fB)} {N : List fB} {op : Int} {gv nv v u : Value} {gs : List (Value × List dD)} {now es fs : List dD} {a : Int} {d z : Value} {dl il : List Int}
theorem DX (H : aB w0 w (eX p G N op • F)) : fG prog 195 #[.pointer (some ⟨p, 0, none⟩)] w fun _ w' => aB w0 w' (eX p [] [] 0 • F) := by
 refine gG func195 ntmps195 ?_
 dsimp only [bf, Nat.reduceAdd]
 refine ay (ah (aN rfl (bW rfl func181 (ji H) ?_)))
 rintro _ _ ⟨rfl, rfl⟩
 refine aU (jY rfl) (aA (aj (aP rfl (fun h1 => ?_) (fun h => by exfalso; (try simp only [aF] at h); simp at h))))
 (try simp only [aF] at h1)
 obtain ⟨wU, uP, jP, jy, jd, qR, oG, DJ, DK, Ib, lS⟩ := (H).uO
 refine ah (aN rfl (aU (fF (pl := #[(0, 4), (4, 1)]) (#[_, _, _, _, _]) underlying180 zeroValue180 (fun w => by kernel_rfl) rfl (rfl)) (bM rfl (aJ (dG 0 (l' := [_, _, _, _, _]) (us := [_, _, _, _, _]) lS sizeOf180 rfl rfl rfl (aC (by first | rfl | assumption) (aC (by first | rfl | assumption) (aC (by first | rfl | assumption) (aC (by first | rfl | assumption) (aC (by first | rfl | assumption) cZ))))) rfl rfl) ?_))))
 rintro _ w3 H3
 refine aA (gU (.inr rfl) results195 ?_)
 refine aB.qH (gv := .slice none 0 0) (nv := .slice none 0 0) (gs := []) (now := []) ⟨by simp, by decide, by decide, by decide, by simp, by simp⟩ rfl rfl rfl ?_
 exact (((H3.f2.right.f2.right.f2.right.f2.right).qx none).zD none).of_eq (by ac_rfl)
theorem aB.Ij (H : aB w0 w (nZ gs • F)) {k : Nat} {gl : Value} {vT : List dD} (hk : k < gs.length) (hg : gs.getD k default = (gl, vT)) : aB w0 w (zW gl vT • nZ gs • F) := by
  have := H.JA hk
  rwa [hg] at this
end
end Go.Proofs.YtgndbccogcofjaaGreatDoor
end
section
namespace Go.Proofs.YtgndbccogcofjaaGreatDoor
open Go.RowKit
open _root_.Go.Proofs.Tryz
theorem OL {G : List (List fB)} {k : Nat} (hk : k < G.length) : G.take (k + 1) = G.take k ++ [G.getD k []] := by
  rw [List.take_succ_eq_append_getElem hk, List.getD_eq_getElem?_getD, List.getElem?_eq_getElem hk]
  rfl
theorem Ik {G : List (List fB)} {g : List fB} (h : g ∈ G) : g.length ≤ (G.map List.length).sum := by
  induction G with
  | nil => cases h
  | cons x G ih =>
    rw [List.map_cons, List.sum_cons]
    rcases List.mem_cons.1 h with rfl | h
    · omega
    · have := ih h; omega
theorem JI {es : List dD} {l : List fB} (h : es.map dD.says = l) (hl : ∀ e ∈ l, EB e) : ∀ k, k < es.length → EB (es.getD k default).says := fun k hk =>
  hl _ (by rw [← h]; exact List.mem_map_of_mem (uJ hk))
section
variable {w0 w : World} {F : HP} {p : Nat} {G : List (List fB)} {N : List fB} {op : Int}
theorem DY (H : aB w0 w (eX p G N op • F)) : fG prog 116 #[.pointer (some ⟨p, 0, none⟩)] w fun v w' => ∃ q, v = .pointer (some ⟨q, 0, none⟩) ∧ aB w0 w' (eX q G N op • eX p G N op • F) := by
 refine gG func116 ntmps116 ?_
 dsimp only [bf, Nat.reduceAdd]
 refine ay (ah (aV rfl (aA (aj (ay (ay (ah (aN rfl (bW rfl func181 (ji H) ?_)))))))))
 rintro _ _ ⟨rfl, rfl⟩
 refine aA (aj (mO (aO (aj (ay ?_)))))
 obtain ⟨wU, uP, jP, jy, jd, qR, oG, DJ, DK, Ib, lS⟩ := (H).uO
 have hLn : jy.length ≤ 16384 := by omega
 have hBn := JI oG jd.2.2.2.2.2
 refine ah (aN rfl (bM rfl (aU (dn underlying180 rfl sizeOf180 rfl rfl (lS).get.2) (iy (gY (l := [_, _, _, _, _]) lS zeroValue180 rfl) ?_))))
 rintro _ w3 ⟨b3, rfl, H3⟩
 refine aJ (dG 0 (l' := [_, _, _, _, _]) (us := [_, _, _, _, _]) H3 sizeOf180 rfl rfl rfl (aC (by first | rfl | exact Rd.one ((H3.f3).aS)) (aC (by first | rfl | exact Rd.one ((H3.f5).aS)) (aC (by first | rfl | assumption) (aC (by first | rfl | assumption) (aC (by first | rfl | assumption) cZ))))) rfl rfl) ?_
 rintro _ w4 H4
 refine aA (aj (ay (ah (aN rfl (bM rfl (bG 0 underlying180 rfl sizeOf178 rfl (bG 1 underlying178 rfl sizeOf35 rfl (dX underlying35 rfl (H4.f2).get.2 rfl (bW rfl func187 (wW H4.f6.f6 hBn hLn) ?_)))))))))
 rintro u5 w5 ⟨fs5, ZV, H5⟩
 obtain ⟨es1, rfl⟩ : ∃ q, q = fs5 := ⟨_, rfl⟩
 have hes1 := ZV
 refine bG 0 underlying180 rfl sizeOf178 rfl (bG 0 underlying178 rfl sizeOf176 rfl (aJ (aT 0 (l' := [_, _, _, _, _]) H5.f5 sizeOf176 rfl rfl (by first | rfl | assumption) rfl rfl) ?_))
 rintro _ w6 H6
 refine bG 0 underlying180 rfl sizeOf178 rfl (bG 1 underlying178 rfl sizeOf35 rfl (aJ (aT 1 (l' := [_, _, _, _, _]) H6 sizeOf35 rfl rfl (by first | rfl | exact Rd.one ((H6.f2).aS)) rfl rfl) ?_))
 rintro _ w7 H7
 refine aA (aj (ay (ay (ah (aN rfl (bM rfl (bG 0 underlying180 rfl sizeOf178 rfl (bG 0 underlying178 rfl sizeOf176 rfl (dX underlying176 rfl (H7.f6).get.2 rfl (aU (jg ((H7.f7).aS) underlying176 rfl) (aN rfl (aA (aj (bF ?_))))))))))))))
 obtain ⟨UR, UU, Yh, -⟩ := ((H7.f7).aS).form
 subst Yh
 refine gQ [(3, _), (25, _), (26, _)] (fun (k : Nat) => [(27, .int .i64 (k : Int))]) (fun (k : Nat) W => k ≤ jP.length ∧ ∃ gu, ∃ hs : List (Value × List dD), hs.map (fun g => g.2.map dD.says) = G.take k ∧ aB w0 W (dH b3 (.cells #[gu, u5, .int .i64 op, .int .i64 (eY G N : Nat), .bool true] 180 (0, 0)) • Row 35 1 gu hs.length (hs.map (·.1)) • nZ hs • Row 101 3 u5 es1.length (es1.flatMap dD.enc) • jH es1 • dH p (.cells #[(.slice UR (jP.length) UU), uP, .int .i64 op, .int .i64 (eY G N : Nat), .bool true] 180 (0, 0)) • Row 35 1 (.slice UR (jP.length) UU) jP.length (jP.map (·.1)) • nZ jP • Row 101 3 uP jy.length (jy.flatMap dD.enc) • jH jy • F)) (fun (k : Nat) => jP.length - k) (0) (Sub.cons rfl (Sub.cons rfl (Sub.cons rfl (Sub.nil _)))) (Sub.cons rfl (Sub.nil _)) ⟨by omega, _, [], rfl, ((H7.f5.f5.f8.f8.f8.f6.f8.f8).zD none).VL.f5⟩ ?_
 rintro k w9 ⟨hk, gu, hs, QC, HL⟩
 dsimp only [List.cons_append, List.nil_append]
 refine ay (ah (aU (eF rfl rfl) (aA (aj (ay (aP rfl (fun h1 => ?_) (fun h1 => ?_)))))))
 ·(try simp only [aF] at h1)
  refine aO (aj (ay (bF (ay (ah ?_)))))
  obtain ⟨abC, abD, rfl⟩ := Rd.pos ((HL.f7).aS) (by omega)
  refine aU (gX underlying176 sizeOf35 rfl rfl (by omega)) ?_
  refine aU (kU (dB underlying35 rfl) rfl (by first | exact Rd.GV ((HL.f7).aS) (by omega) | exact Rd.UD ((HL.f7).aS) (by omega) | exact Rd.SK ((HL.f7).aS) (by omega))) ?_
  have hkl : k < jP.length := by omega
  rw [show (jP.map (·.1)).getD k undef = (jP.getD k default).1 from by simp [List.getD_eq_getElem?_getD, hkl]]
  obtain ⟨gl, vT, hg⟩ : ∃ gl vT, jP.getD k default = (gl, vT) := ⟨_, _, rfl⟩
  rw [hg]
  have VY := HL.f8
  have VZ := VY.Ij hkl hg
  have hge : vT.map dD.says = G.getD k [] := by
   rw [← qR]
   have h9 : (jP.map (fun g => g.2.map dD.says)).getD k [] = (jP.getD k default).2.map dD.says := by simp [List.getD_eq_getElem?_getD, hkl]
   rw [h9, hg]
  have hgm : G.getD k [] ∈ G := uJ (by omega)
  have hBg := JI hge (jd.2.2.2.2.1 _ hgm)
  have Yi : vT.length ≤ 16384 := by
   have h8 := jd.2.1
   unfold eY at h8
   have h7 := congrArg List.length hge
   rw [List.length_map] at h7
   have h6 := Ik hgm
   omega
  have ZW := congrArg List.length QC
  rw [List.length_map, List.length_take] at ZW
  refine aV rfl (aA (aj ?_))
  have UW := VZ.drew
  have DZ := aB.kp (UW.f11.f11.f11.f11.f11.f11.f11.f11.f11.f11.f11)
  refine yI [2] DZ rfl (gV 0 rfl DZ 0 underlying180 rfl sizeOf178 rfl (gV 1 rfl DZ 0 underlying178 rfl sizeOf176 rfl (jB 2 rfl DZ (fun W hW => jR underlying176 rfl ((Kp.h hW).f3).get.2 rfl) (iD 3 rfl DZ rfl (kQ 4 rfl (wJ rfl func187 (uf UW hBg Yi)) ?_)))))
  rintro Y5 w12 ⟨QB, UQ, xR⟩
  obtain ⟨es2, rfl⟩ : ∃ q, q = QB := ⟨_, rfl⟩
  have hes2 := UQ
  have zF := aB.kp (xR.f13.f13.f13.f13.f13.f13.f13.f13.f13.f13.f13.f13.f13)
  refine dZ zF (fun W hW => (Kp.h hW).right.right.f11.f11.f11.f11.f11.f11.f11.f11.f11.f11.f11) ?_
  refine kQ 5 rfl (pG (vs := [_]) xR underlying176 sizeOf35 zeroValue35 rfl rfl rfl (by decide) (aC (by first | rfl | exact Rd.one ((xR).aS)) cZ)) ?_
  rintro l13 Po xE
  have yw := aB.kp (xE.f14.f14.f14.f14.f14.f14.f14.f14.f14.f14.f14.f14.f14.f14)
  refine dZ yw (fun W hW => (Kp.h hW).right.f13.f13.f13.f13.f13.f13.f13.f13.f13.f13.f13.f13.f13) ?_
  refine kQ 6 rfl (iR xE.f7 underlying176 (show (prog.info? 35).map (fun i => (i.zero, i.size, i.bytes)) = some (some (.slice none 0 0), 1, 24) by kernel_rfl) rfl rfl rfl ((xE).aS) (aC (by first | rfl | exact Rd.one ((xE.f2).aS)) cZ) (by omega) (by omega)) ?_
  rintro ZR MX yK
  have V3 := yK.f2.right
  have yx := aB.kp (V3.f13.f13.f13.f13.f13.f13.f13.f13.f13.f13.f13.f13.f13)
  refine gB yx (by kernel_rfl) ?_
  refine gV 7 rfl yx 0 underlying180 rfl sizeOf178 rfl (gV 8 rfl yx 0 underlying178 rfl sizeOf176 rfl ?_)
  refine gI 9 rfl (by kernel_rfl) (aT 0 (l' := [_, _, _, _, _]) V3.f6 sizeOf176 rfl rfl (by first | rfl | exact Rd.one ((V3).aS)) rfl rfl) ?_
  rintro _ w16 tX
  have JJ := aB.kp (tX.f13.f13.f13.f13.f13.f13.f13.f13.f13.f13.f13.f13.f13)
  refine gB JJ (by kernel_rfl) ?_
  have X := aB.rQ (es := es2) (tX.f5.right.f12.f12.f7.f12.f12.f12.f12.f8.f12.f10.f12.f12).deep
  have HN := (aB.uN X.swap).VL.f3
  have hnew : (hs ++ [(Y5, es2)]).map (fun g => g.2.map dD.says) = G.take (k + 1) := by rw [List.map_append, QC, OL (by omega), ← hge, ← hes2]; rfl
  refine qQ (aQ (aj (ah (aU (fC rfl rfl (by omega)) (aN rfl (aA ?_))))))
  refine eG (k + 1) ?_ ?_ ?_ ?_
  ·exact (Sub.cons rfl (Sub.nil _))
  ·exact (Sub.cons rfl (Sub.cons rfl (Sub.cons rfl (Sub.nil _))))
  ·(try dsimp only)
   first | done | exact ⟨by omega, _, _, hnew, HN⟩
  ·(try dsimp only); omega
 ·(try simp only [aF] at h1)
  refine eU (aZ (aZ (bK (aj (ay (ah (aV rfl (aA (aj (aI (aH (.inl rfl) results116 rfl ?_)))))))))))
  rw [List.take_of_length_le (by omega)] at QC
  have X := aB.jU (gs := hs) (now := es1) jd QC (hes1.trans oG) rfl (HL.f10.f10.f10.f10.f10.f10.f10.f10.f10.f10)
  have Y := aB.jU jd qR oG rfl X.f6.f6.f6.f6.f6
  exact ⟨_, rfl, Y.swap⟩
end
end Go.Proofs.YtgndbccogcofjaaGreatDoor
end
section
namespace Go.Proofs.YtgndbccogcofjaaGreatDoor
open Go.RowKit
def yP (G : List (List fB)) (N : List fB) : List (List fB) := (jE G N).reverse
def Il (N : List fB) : List (List fB) := if N = [] then [] else [N]
theorem QD (N : List fB) : (Il N).length ≤ 1 := by unfold Il; split <;> simp
theorem TJ (G : List (List fB)) (N : List fB) : yP G N = Il N ++ G.reverse := by
  unfold yP Il jE; split <;> simp
end Go.Proofs.YtgndbccogcofjaaGreatDoor
end
