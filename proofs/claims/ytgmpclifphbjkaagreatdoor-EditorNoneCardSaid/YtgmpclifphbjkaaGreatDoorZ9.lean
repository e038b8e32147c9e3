import Derived.Test.YtgmpclifphbjkaaGreatDoorZ7
import Derived.Test.YtgmpclifphbjkaaGreatDoorZ8
/- Texts of mine, joined: Range UList2 UList3 UList4. -/
section
/- Loops over functions: a call of yield; what an iterator does; the loop. -/
set_option linter.unusedSimpArgs false
set_option linter.unusedVariables false
namespace Go.Proofs.YtgmpclifphbjkaaGreatDoor
open Go.RowKit

/-- A call of the yield of loop l comes back, and so. -/
def YRet (P : Program) (l : Nat) (vs : List Value) (w : World) (T : Value → World → Prop) : Prop :=
  ∃ f tmps c d, (Instr.yield l vs.toArray).run P w = .ok (.round l f tmps c d) w ∧ RoundIn Fence.wide 0 P l f tmps c d w fun e w' => ∃ v, e = .returned v ∧ T v w'
theorem YRet.mono {P : Program} {l : Nat} {vs : List Value} {w : World} {T T' : Value → World → Prop} (h : YRet P l vs w T) (k : ∀ v w', T v w' → T' v w') : YRet P l vs w T' :=
  let ⟨f, tmps, c, d, h1, h2⟩ := h; ⟨f, tmps, c, d, h1, RoundIn.mono h2 fun _ _ ⟨v, e, t⟩ => ⟨v, e, k _ _ t⟩⟩
theorem YRet.bool {P : Program} {l : Nat} {vs : List Value} {w : World} {A B : World → Prop} (h : YRet P l vs w fun v W' => (v = .bool true ∧ A W') ∨ (v = .bool false ∧ B W')) : YRet P l vs w fun v W' => ∃ t, v = .bool t ∧ (t = true → A W') ∧ (t = false → B W') :=
  h.mono fun v W' hv => by
    rcases hv with ⟨rfl, h⟩ | ⟨rfl, h⟩
    · exact ⟨true, rfl, fun _ => h, fun e => by cases e⟩
    · exact ⟨false, rfl, (fun e => by cases e), fun _ => h⟩
theorem e_yield {P : Program} {L : List (Nat × Value)} {w : World} {ty : TypeId} {x : Operand} {args : List Operand} {ts : Array TypeId} {l : Nat} {vs : List Value} {T : Value → World → Prop} (hx : ev L x = some (.func (.yield l) #[] #[])) (ha : evl L args = some vs) (h : YRet P l vs w T) :
    Eff P L (.call ⟨.value x, args.toArray, ts⟩) ty w T := by
  obtain ⟨f, tmps, c, d, hy, hr⟩ := h
  refine e_round (fun ρ hρ dd pos aft g => ?_) hr
  have hg := hρ _ _ hx
  simp [execOp, resolve, invoke, evs hρ _ _ ha, hg, Deferred.ofValue, hy]

/-- What an iterator does, called with a yield: at most n times, its k-th call hands over values and memory as E says; it stops where the yield says no. -/
def Iter (P : Program) (w0 : World) (fv : Value) (R : HP) (n : Nat) (E : Nat → List Value → HP → Prop) : Prop :=
  ∀ (l : Nat) (J : Nat → HP) (X : HP) (w : World),
    (∀ k, k < n → ∀ vs A, E k vs A → ∀ G W, Holds w0 W (A • J k • G) → YRet P l vs W fun v W' => (v = .bool true ∧ Holds w0 W' (J (k + 1) • G)) ∨ (v = .bool false ∧ Holds w0 W' (X • G))) →
    Holds w0 w (J 0 • R) → FnRet P fv [.func (.yield l) #[] #[]] w fun _ W' => Holds w0 W' (J n • R) ∨ Holds w0 W' (X • R)

/-- What a round leaves. -/
def RPost (w0 : World) (I : HP) (Xr : HP) (Xe : Nat → HP) (G : HP) : Exit → Act → World → Prop
  | .normal, _, W => Holds w0 W (I • G)
  | .ret, _, W => Holds w0 W (Xr • G)
  | .exit id, _, W => Holds w0 W (Xe id • G)
  | _, _, _ => False
/-- What the assignment to a round's variables leaves, and that the round's body goes on from there. -/
def MidPost (P : Program) (N : Sh) (w0 : World) (body : Code) (I : HP) (Xr : HP) (Xe : Nat → HP) (G : HP) (a : Act) (W : World) : Prop :=
  ∃ (L : List (Nat × Value)) (B : HP), Fits N L a ∧ Holds w0 W (B • G) ∧ ∀ G' W', Holds w0 W' (B • G') → WC P N body (RPost w0 I Xr Xe G') L W'
def noPost : Exit → Act → World → Prop := fun _ _ _ => False
theorem wq_mid {P : Program} {N : Sh} {w0 w : World} {body : Code} {I Xr : HP} {Xe : Nat → HP} {G B : HP} {L : List (Nat × Value)} (H : Holds w0 w (B • G)) (h : ∀ G' W', Holds w0 W' (B • G') → WC P N body (RPost w0 I Xr Xe G') L W') :
    WQ N (Exit.then (MidPost P N w0 body I Xr Xe G) noPost) .normal L w := fun _ a ha => ⟨L, B, ha, H, h⟩
theorem wq_rnormal {N : Sh} {w0 w : World} {I Xr : HP} {Xe : Nat → HP} {G : HP} {L : List (Nat × Value)} (H : Holds w0 w (I • G)) : WQ N (RPost w0 I Xr Xe G) .normal L w := fun _ _ _ => H
theorem wq_rexit {N : Sh} {w0 w : World} {I Xr : HP} {Xe : Nat → HP} {G : HP} {id : Nat} {L : List (Nat × Value)} (H : Holds w0 w (Xe id • G)) : WQ N (RPost w0 I Xr Xe G) (.exit id) L w := fun _ _ _ => H
theorem np_rpost {w0 : World} {I Xr : HP} {Xe : Nat → HP} {G : HP} : NP (RPost w0 I Xr Xe G) := fun _ _ _ h => h

/-- The slots of a round: the parameters ahead of the frame's. -/
def zipL : List Nat → List Value → List (Nat × Value) → List (Nat × Value)
  | [], _, L => L
  | _ :: _, [], L => L
  | p :: ps, v :: vs, L => zipL ps vs ((p, v) :: L)
theorem fits_zip {n l : Nat} : ∀ (ps : List Nat) (vs : List Value) (L : List (Nat × Value)) (tmps : Array Value), (∀ p ∈ ps, p < n) → Fits ⟨n, [], some l⟩ L { tmps := tmps, defers := [] } →
    Fits ⟨n, [], some l⟩ (zipL ps vs L) { tmps := (ps.zip vs).foldl (fun t (p : Nat × Value) => t.setIfInBounds p.1 p.2) tmps, defers := [] }
  | [], _, _, _, _, h => h
  | _ :: _, [], _, _, _, h => h
  | p :: ps, v :: vs, L, tmps, hp, h => fits_zip ps vs _ _ (fun q hq => hp q (by simp [hq])) (h.put (hp p (by simp)) v)

section
variable {P : Program} {N : Sh} {Q : Exit → Act → World → Prop} {L : List (Nat × Value)} {w0 w : World}
/-- A loop over a function. -/
theorem wc_rangeFunc {g : Operand} {ps : List Nat} {assign body : Code} {fv : Value} {R : HP} {n : Nat} {E : Nat → List Value → HP → Prop} (hg : ev L g = some fv) (hit : Iter P w0 fv R n E) (I : Nat → HP) (Xr : HP) (Xe : Nat → HP) (H : Holds w0 w (I 0 • R))
    (hps : ps.all (· < N.n) = true)
    (hbody : ∀ l k, k < n → ∀ vs A, E k vs A → ∀ G W, Holds w0 W (A • I k • G) → vs.length = ps.length ∧ WC P ⟨N.n, [], some l⟩ assign (Exit.then (MidPost P ⟨N.n, [], some l⟩ w0 body (I (k + 1)) Xr Xe G) noPost) (zipL ps vs L) W)
    (hdone : ∀ D W, Holds w0 W (blk D (.deferred (some [])) • I n • R) → WQ ⟨N.n, D :: N.ds, none⟩ Q .normal L W)
    (hret : ∀ D W, Holds w0 W (blk D (.deferred (some [])) • Xr • R) → WQ ⟨N.n, D :: N.ds, none⟩ Q .ret L W)
    (hexit : ∀ id D W, Holds w0 W (blk D (.deferred (some [])) • Xe id • R) → WQ ⟨N.n, D :: N.ds, none⟩ Q (.exit id) L W)
    (hro : N.ro = none := by rfl) : WC P N (.rangeFunc g ps.toArray assign body) Q L w := fun np a ha => by
  rw [hro]
  refine wpIn_rangeFunc fun fn _ => ?_
  let rec0 : LoopState → Option Code → Loop := fun s j => { state := s, pending := j, fn, tmps := a.tmps, params := ps.toArray, assign, body, defers := w.heap.size }
  have hlay := run_enterLoop_outer (P := P) (w := w) fn a.tmps ps.toArray assign body
  have H1 : Holds w0 ((w.alloc (.deferred (some []))).alloc (.loop (rec0 .ready none))) (blk (w.heap.size + 1) (.loop (rec0 .ready none)) • blk w.heap.size (.deferred (some [])) • I 0 • R) := by
    have := (H.alloc (.deferred (some []))).alloc (.loop (rec0 .ready none))
    rw [World.size_alloc] at this
    exact this
  let Lk : LoopState → Option Code → HP := fun s j => blk (w.heap.size + 1) (.loop (rec0 s j)) • blk w.heap.size (.deferred (some []))
  have hround : ∀ k, k < n → ∀ vs A, E k vs A → ∀ G W, Holds w0 W (A • (Lk .ready none • I k) • G) → YRet P (w.heap.size + 1) vs W fun v W' => (v = .bool true ∧ Holds w0 W' ((Lk .ready none • I (k + 1)) • G)) ∨
      (v = .bool false ∧ Holds w0 W' (exHP (fun c : Code => Lk .done (some c) • (match c with | .ret => Xr | .exit id => Xe id | _ => fact False)) • G)) := by
    intro k hk vs A hE G W HW
    -- the record in front
    have e1 : (A • (Lk .ready none • I k) • G) = (blk (w.heap.size + 1) (.loop (rec0 .ready none)) • A • I k • blk w.heap.size (.deferred (some [])) • G) := by
      show (A • ((blk (w.heap.size + 1) (.loop (rec0 .ready none)) • blk w.heap.size (.deferred (some []))) • I k) • G) = _
      ac_rfl
    have HW1 := HW.of_eq e1
    have hl := HW1.get.2
    have hlen := (hbody (w.heap.size + 1) k hk vs A hE _ W (HW1.of_eq (show _ = (A • I k • blk (w.heap.size + 1) (.loop (rec0 .ready none)) • blk w.heap.size (.deferred (some [])) • G) by ac_rfl))).1
    refine ⟨fn, _, assign, body, run_yield hl (by rw [List.size_toArray, hlen]; exact List.size_toArray.symm), ?_⟩
    have hfit : Fits ⟨N.n, [], some (w.heap.size + 1)⟩ (zipL ps vs L) { tmps := (ps.toArray.zip vs.toArray).foldl (fun tmps (t, a) => tmps.setIfInBounds t a) a.tmps, defers := [] } := by
      have := fits_zip (n := N.n) (l := w.heap.size + 1) ps vs L a.tmps (fun p hp => by simpa using List.all_eq_true.1 hps p hp) ⟨ha.size, rfl, ha.at_⟩
      simpa using this
    refine roundIn_of_wpIn trivial ?_
    have HW2 : Holds w0 W (A • I k • blk (w.heap.size + 1) (.loop (rec0 .ready none)) • blk w.heap.size (.deferred (some [])) • G) := HW1.of_eq (by ac_rfl)
    have hb := (hbody (w.heap.size + 1) k hk vs A hE _ W HW2).2 (fun c a w h => h) _ hfit
    refine wpIn_mono hb ?_
    rintro e a1 W1 hq
    cases e with
    | exit id => exact hq.elim
    | goto l => exact hq.elim
    | ret => exact hq.elim
    | panic c => exact hq.elim
    | outgrown => exact hq.elim
    | normal =>
      obtain ⟨L1, B, hf1, HB, hgo⟩ := hq
      have HB1 : Holds w0 W1 (blk (w.heap.size + 1) (.loop (rec0 .ready none)) • B • blk w.heap.size (.deferred (some [])) • G) := HB.of_eq (by ac_rfl)
      have hl1 := HB1.get.2
      refine ⟨_, run_beginRound hl1 rfl, ?_⟩
      have HB2 : Holds w0 (W1.putObj (w.heap.size + 1) (.loop (rec0 .busy none))) (blk (w.heap.size + 1) (.loop (rec0 .busy none)) • B • blk w.heap.size (.deferred (some [])) • G) := HB1.turn rfl rfl rfl (by simp) (World.putObj_heap_same HB1.lt) fun k hk _ => World.putObj_heap_other hk
      have hbd := hgo (blk (w.heap.size + 1) (.loop (rec0 .busy none)) • blk w.heap.size (.deferred (some [])) • G) _ (HB2.of_eq (by ac_rfl)) np_rpost a1 hf1
      refine wpIn_mono hbd ?_
      have fin : ∀ (j : Option Code) (W3 : World) (A3 : HP), Holds w0 W3 (A3 • blk (w.heap.size + 1) (.loop (rec0 .busy none)) • blk w.heap.size (.deferred (some [])) • G) →
          (Instr.endRound (w.heap.size + 1) j).run P W3 = .ok (.bool j.isNone) (W3.putObj (w.heap.size + 1) (.loop (rec0 (if j.isNone then .ready else .done) j))) ∧
          Holds w0 (W3.putObj (w.heap.size + 1) (.loop (rec0 (if j.isNone then .ready else .done) j))) ((Lk (if j.isNone then .ready else .done) j • A3) • G) := by
        intro j W3 A3 H3
        have H4 := H3.swap
        refine ⟨run_endRound j H4.get.2, ?_⟩
        have H5 : Holds w0 (W3.putObj (w.heap.size + 1) (.loop (rec0 (if j.isNone then .ready else .done) j))) (blk (w.heap.size + 1) (.loop (rec0 (if j.isNone then .ready else .done) j)) • A3 • blk w.heap.size (.deferred (some [])) • G) := H4.turn rfl rfl rfl (by simp) (World.putObj_heap_same H4.lt) fun k hk _ => World.putObj_heap_other hk
        refine H5.of_eq ?_
        show _ = (((blk (w.heap.size + 1) (.loop (rec0 (if j.isNone then .ready else .done) j)) • blk w.heap.size (.deferred (some []))) • A3) • G)
        ac_rfl
      rintro e a3 W3 hp
      cases e with
      | normal => obtain ⟨h1, h2⟩ := fin none W3 _ hp; exact ⟨_, _, h1, _, rfl, .inl ⟨rfl, h2⟩⟩
      | ret => obtain ⟨h1, h2⟩ := fin (some .ret) W3 _ hp; exact ⟨_, _, h1, _, rfl, .inr ⟨rfl, Holds.mk_ex_sep .ret h2⟩⟩
      | exit id => obtain ⟨h1, h2⟩ := fin (some (.exit id)) W3 _ hp; exact ⟨_, _, h1, _, rfl, .inr ⟨rfl, Holds.mk_ex_sep (.exit id) h2⟩⟩
      | goto l => exact hp.elim
      | panic c => exact hp.elim
      | outgrown => exact hp.elim
  have hcall := hit (w.heap.size + 1) (fun k => Lk .ready none • I k) _ _ hround (H1.of_eq (by
    show _ = (((blk (w.heap.size + 1) (.loop (rec0 .ready none)) • blk w.heap.size (.deferred (some []))) • I 0) • R)
    ac_rfl))
  obtain ⟨f, first, cap, fn', c, rfl, hf, hn, hb, hret'⟩ := hcall
  refine ⟨w.heap.size + 1, _, _, { target := .fn (.func f) cap.toArray, args := (first ++ [Value.func (.yield (w.heap.size + 1)) #[] #[]]).toArray }, (w.alloc (.deferred (some []))).alloc (.loop (rec0 .ready none)), f, _, (w.alloc (.deferred (some []))).alloc (.loop (rec0 .ready none)), hlay, ?_, fun _ _ => trivial, ?_, (fun h => by cases h), fz_calls.2 (Calls.mono hret' ?_)⟩
  · have he := ha.ev hg
    have he2 : a.eval (.const (.func (.yield (w.heap.size + 1)) #[] #[])) = .func (.yield (w.heap.size + 1)) #[] #[] := rfl
    simp [resolve, rangeCall, he, he2, Deferred.ofValue, rec0]
  · simp [invoke, callFunc, hf, hb]
    simpa using hn
  · rintro e W2 ⟨v, rfl, hv⟩
    have fin : ∀ (s : LoopState) (j : Option Code) (A : HP), s ≠ .busy → Holds w0 W2 ((Lk s j • A) • R) → (Instr.endLoop (w.heap.size + 1)).run P W2 = .ok j (W2.putObj (w.heap.size + 1) (.loop (rec0 .exhausted j))) ∧
        Holds w0 (W2.putObj (w.heap.size + 1) (.loop (rec0 .exhausted j))) (blk w.heap.size (.deferred (some [])) • A • R) := by
      intro s j A hs H3
      have H4 : Holds w0 W2 (blk (w.heap.size + 1) (.loop (rec0 s j)) • blk w.heap.size (.deferred (some [])) • A • R) := H3.of_eq (by
        show (((blk (w.heap.size + 1) (.loop (rec0 s j)) • blk w.heap.size (.deferred (some []))) • A) • R) = _
        ac_rfl)
      refine ⟨run_endLoop H4.get.2 hs, ?_⟩
      have H5 : Holds w0 (W2.putObj (w.heap.size + 1) (.loop (rec0 .exhausted j))) (blk (w.heap.size + 1) (.loop (rec0 .exhausted j)) • blk w.heap.size (.deferred (some [])) • A • R) := H4.turn rfl rfl rfl (by simp) (World.putObj_heap_same H4.lt) fun k hk _ => World.putObj_heap_other hk
      exact H5.right
    have hfit : Fits ⟨N.n, w.heap.size :: N.ds, none⟩ L { a with defers := [{ target := .collected w.heap.size, args := #[] }] ++ a.defers } := ⟨ha.size, by simp [ha.defers, markD], ha.at_⟩
    rcases hv with hv | hv
    · obtain ⟨h1, h2⟩ := fin _ _ _ (by decide) hv
      exact ⟨none, _, h1, hdone _ _ h2 np _ hfit⟩
    · obtain ⟨c, hv⟩ := hv.ex_sep
      obtain ⟨h1, h2⟩ := fin _ _ _ (by decide) hv
      cases c with
      | ret => exact ⟨some .ret, _, h1, wpIn_ret (hret _ _ h2 np _ hfit)⟩
      | exit id => exact ⟨some (.exit id), _, h1, wpIn_exit (hexit id _ _ h2 np _ hfit)⟩
      | _ => exact absurd h2.swap.fact.1 id
end
end Go.Proofs.YtgmpclifphbjkaaGreatDoor
end
section
/- Lists of edits that are taken back: close, inverses, Undo. -/
set_option linter.unusedSimpArgs false
set_option linter.unusedVariables false
namespace Go.Proofs.YtgmpclifphbjkaaGreatDoor
open Go.RowKit
def closeG (G : List (List EdA)) (N : List EdA) : List (List EdA) := if N = [] then G else G ++ [N]
theorem closeG_nil {G : List (List EdA)} {N : List EdA} (h : N = []) : closeG G N = G := by unfold closeG; rw [if_pos h]
theorem closeG_snoc {G : List (List EdA)} {N : List EdA} (h : N ≠ []) : closeG G N = G ++ [N] := by unfold closeG; rw [if_neg h]
theorem uTot_close {G : List (List EdA)} {N : List EdA} : uTot (closeG G N) [] = uTot G N := by
  unfold closeG; split
  · rename_i h; rw [h]
  · simp [uTot]
section
variable {w0 w : World} {F : HP} {p : Nat} {G : List (List EdA)} {N : List EdA} {op : Int} {gv nv v : Value} {gs : List (Value × List BEd)} {now es : List BEd} {a : Int} {d z : Value} {dl il : List Int}
theorem undo_close_ret (H : Holds w0 w (UList p G N op • F)) : Ret Tryz.prog 128 #[.pointer (some ⟨p, 0, none⟩)] w fun _ w' => Holds w0 w' (UList p (closeG G N) [] 0 • F) := by
  refine ret_enter Tryz.func128 rfl Tryz.ntmps128 (Nat.le_of_ble_eq_true rfl) ?_
  dsimp only [slots0, Nat.reduceAdd]
  refine wc_seq ?_
  refine wc_seq ?_
  obtain ⟨gv_p, nv_p, gs_p, now_p, k1_p, k2_p, k3_p, k4_p, k5_p, k6_p, HU_p⟩ := (H).ulist
  refine wc_region ?_
  refine wl_val (r_move rfl) (ltn rfl) ?_
  refine wl_val (r_nil rfl) (ltn rfl) ?_
  refine wl_val (r_fieldA 0 Tryz.underlying171 rfl rfl Tryz.sizeOf169 (by decide) rfl (by first | exact Nat.zero_add _ | rfl)) (ltn rfl) ?_
  refine wl_val (r_fieldA 1 Tryz.underlying169 rfl rfl Tryz.sizeOf64 (by decide) rfl (by first | exact Nat.zero_add _ | rfl)) (ltn rfl) ?_
  refine wl_val (r_load (plain_of Tryz.underlying64 rfl) rfl (cell_of_blk (HU_p).get.2 rfl)) (ltn rfl) ?_
  refine wl_val (r_lenS ((HU_p.f4).row_rd) Tryz.underlying64 rfl) (ltn rfl) ?_
  refine wl_val (r_gtr rfl rfl) (ltn rfl) ?_
  refine wl_nil ?_
  refine wq_seq ?_
  refine wc_cond rfl (fun h1 => ?_) (fun h1 => ?_)
  · (try simp only [cmpS] at h1)
    have hnow : 0 < now_p.length := by omega
    have H1d1 := HU_p.drew
    have hS1d1 := Holds.kp (H1d1.f5.f5.f5.f5.f5)
    refine wd_beginK [5, 10] hS1d1 (by kernel_rfl) (by kernel_rfl) rfl ?_
    refine wd_takeT 0 rfl (by kernel_rfl) (by kernel_rfl) hS1d1 (fun _ => r_move rfl) (ltn rfl) ?_
    refine wd_takeT 1 rfl (by kernel_rfl) (by kernel_rfl) hS1d1 (fun _ => r_move rfl) (ltn rfl) ?_
    refine wd_takeT 2 rfl (by kernel_rfl) (by kernel_rfl) hS1d1 (fun _ => r_nil rfl) (ltn rfl) ?_
    refine wd_takeT 3 rfl (by kernel_rfl) (by kernel_rfl) hS1d1 (fun _ => r_fieldA 0 Tryz.underlying171 rfl rfl Tryz.sizeOf169 (by decide) rfl (by first | exact Nat.zero_add _ | rfl)) (ltn rfl) ?_
    refine wd_takeT 4 rfl (by kernel_rfl) (by kernel_rfl) hS1d1 (fun _ => r_fieldA 0 Tryz.underlying169 rfl rfl Tryz.sizeOf167 (by decide) rfl (by first | exact Nat.zero_add _ | rfl)) (ltn rfl) ?_
    refine wd_take 5 rfl (by kernel_rfl) (by kernel_rfl) hS1d1 (by decide) (fun W hW => r_load (plain_of Tryz.underlying167 rfl) rfl (cell_of_blk ((Kp.h hW)).get.2 rfl)) (ltn rfl) ?_
    refine wd_takeT 6 rfl (by kernel_rfl) (by kernel_rfl) hS1d1 (fun _ => r_move rfl) (ltn rfl) ?_
    refine wd_takeT 7 rfl (by kernel_rfl) (by kernel_rfl) hS1d1 (fun _ => r_nil rfl) (ltn rfl) ?_
    refine wd_takeT 8 rfl (by kernel_rfl) (by kernel_rfl) hS1d1 (fun _ => r_fieldA 0 Tryz.underlying171 rfl rfl Tryz.sizeOf169 (by decide) rfl (by first | exact Nat.zero_add _ | rfl)) (ltn rfl) ?_
    refine wd_takeT 9 rfl (by kernel_rfl) (by kernel_rfl) hS1d1 (fun _ => r_fieldA 1 Tryz.underlying169 rfl rfl Tryz.sizeOf64 (by decide) rfl (by first | exact Nat.zero_add _ | rfl)) (ltn rfl) ?_
    refine wd_take 10 rfl (by kernel_rfl) (by kernel_rfl) hS1d1 (by decide) (fun W hW => r_load (plain_of Tryz.underlying64 rfl) rfl (cell_of_blk ((Kp.h hW)).get.2 rfl)) (ltn rfl) ?_
    refine wd_eff 11 rfl (by kernel_rfl) (e_lit_row (vs := [_]) H1d1 Tryz.underlying167 Tryz.sizeOf64 Tryz.zeroValue64 rfl rfl rfl (by decide) (ones_cons (by first | rfl | exact Rd.one ((H1d1.f4).row_rd)) ones_nil)) (ltn rfl) ?_
    rintro l2 w2 H2
    have hS2n := Holds.kp (H2.f6.f6.f6.f6.f6.f6)
    refine keepK hS2n (fun W hW => (Kp.h hW).right.f5.f5.f5.f5.f5) ?_
    refine wd_eff 12 rfl (by kernel_rfl) (e_append H2.f3 Tryz.underlying167 (show (Tryz.prog.info? 64).map (fun i => (i.zero, i.size, i.bytes)) = some (some (.slice none 0 0), 1, 24) by kernel_rfl) rfl rfl rfl ((H2).row_rd) (ones_cons (by first | rfl | exact Rd.one ((H2.f5).row_rd)) ones_nil) (by omega) (by omega)) (ltn rfl) ?_
    rintro l3 w3 H3
    have Hd4 := H3.f2.right
    have hS4n := Holds.kp (Hd4.f5.f5.f5.f5.f5)
    refine keepX hS4n (by kernel_rfl) ?_
    refine wd_takeT 13 rfl (by kernel_rfl) (by kernel_rfl) hS4n (fun _ => r_nil rfl) (ltn rfl) ?_
    refine wd_takeT 14 rfl (by kernel_rfl) (by kernel_rfl) hS4n (fun _ => r_fieldA 0 Tryz.underlying171 rfl rfl Tryz.sizeOf169 (by decide) rfl (by first | exact Nat.zero_add _ | rfl)) (ltn rfl) ?_
    refine wd_takeT 15 rfl (by kernel_rfl) (by kernel_rfl) hS4n (fun _ => r_fieldA 0 Tryz.underlying169 rfl rfl Tryz.sizeOf167 (by decide) rfl (by first | exact Nat.zero_add _ | rfl)) (ltn rfl) ?_
    refine wd_eff0 16 rfl (by kernel_rfl) (e_storeL 0 (l' := [_, _, _, _, _]) Hd4.f2 Tryz.sizeOf167 rfl rfl (by first | rfl | exact Rd.one ((Hd4).row_rd)) rfl rfl) ?_
    rintro _ w5 H5
    have hS5n := Holds.kp (H5.f5.f5.f5.f5.f5)
    refine keepX hS5n (by kernel_rfl) ?_
    refine wd_done (by kernel_rfl) ?_
    refine wq_seq ?_
    refine wc_region ?_
    refine wl_val (r_move rfl) (ltn rfl) ?_
    refine wl_val (r_move rfl) (ltn rfl) ?_
    refine wl_val (r_nil rfl) (ltn rfl) ?_
    refine wl_val (r_fieldA 0 Tryz.underlying171 rfl rfl Tryz.sizeOf169 (by decide) rfl (by first | exact Nat.zero_add _ | rfl)) (ltn rfl) ?_
    refine wl_val (r_fieldA 1 Tryz.underlying169 rfl rfl Tryz.sizeOf64 (by decide) rfl (by first | exact Nat.zero_add _ | rfl)) (ltn rfl) ?_
    refine wl_eff0 (e_storeL 1 (l' := [_, _, _, _, _]) H5 Tryz.sizeOf64 rfl rfl (by first | rfl | assumption) rfl rfl) ?_
    rintro _ w6 H6
    refine wl_val (r_nil rfl) (ltn rfl) ?_
    refine wl_val (r_fieldA 0 Tryz.underlying171 rfl rfl Tryz.sizeOf169 (by decide) rfl (by first | exact Nat.zero_add _ | rfl)) (ltn rfl) ?_
    refine wl_val (r_fieldA 2 Tryz.underlying169 rfl rfl Tryz.sizeOf3 (by decide) rfl (by first | exact Nat.zero_add _ | rfl)) (ltn rfl) ?_
    refine wl_eff0 (e_storeL 2 (l' := [_, _, _, _, _]) H6 Tryz.sizeOf3 rfl rfl (by first | rfl | assumption) rfl rfl) ?_
    rintro _ w7 H7
    refine wl_nil ?_
    refine wq_end0 (.inr rfl) Tryz.results128 ?_
    have hN : N ≠ [] := by rintro rfl; exact absurd k5_p (by simp only [List.length_nil]; omega)
    rw [closeG_snoc hN]
    have X := Holds.edL_freeze (v := nv_p) (es := now_p) (H7.f3.f3.f5.f5).deep
    have X4 := Holds.edLL_snoc X.swap
    refine Holds.mk_ulist (gv := l3) (nv := .slice none 0 0) (gs := gs_p ++ [(nv_p, now_p)]) (now := []) (ed := (uTot G N : Nat)) ⟨nn_snoc k1_p.1 hN, by rw [← closeG_snoc hN, uTot_close]; exact k1_p.2.1, by decide, by decide, EBs_snoc k1_p.2.2.2.2.1 k1_p.2.2.2.2.2, by simp⟩ (by rw [List.map_append, k2_p, ← k3_p]; rfl) rfl (by rw [← closeG_snoc hN, uTot_close]) ((X4.edL_nil none).of_eq (by ac_rfl))
  · (try simp only [cmpS] at h1)
    have hnow : now_p.length = 0 := by omega
    refine wc_skip ?_
    refine wq_seq ?_
    refine wc_region ?_
    refine wl_val (r_move rfl) (ltn rfl) ?_
    refine wl_val (r_move rfl) (ltn rfl) ?_
    refine wl_val (r_nil rfl) (ltn rfl) ?_
    refine wl_val (r_fieldA 0 Tryz.underlying171 rfl rfl Tryz.sizeOf169 (by decide) rfl (by first | exact Nat.zero_add _ | rfl)) (ltn rfl) ?_
    refine wl_val (r_fieldA 1 Tryz.underlying169 rfl rfl Tryz.sizeOf64 (by decide) rfl (by first | exact Nat.zero_add _ | rfl)) (ltn rfl) ?_
    refine wl_eff0 (e_storeL 1 (l' := [_, _, _, _, _]) HU_p Tryz.sizeOf64 rfl rfl (by first | rfl | assumption) rfl rfl) ?_
    rintro _ w8 H8
    refine wl_val (r_nil rfl) (ltn rfl) ?_
    refine wl_val (r_fieldA 0 Tryz.underlying171 rfl rfl Tryz.sizeOf169 (by decide) rfl (by first | exact Nat.zero_add _ | rfl)) (ltn rfl) ?_
    refine wl_val (r_fieldA 2 Tryz.underlying169 rfl rfl Tryz.sizeOf3 (by decide) rfl (by first | exact Nat.zero_add _ | rfl)) (ltn rfl) ?_
    refine wl_eff0 (e_storeL 2 (l' := [_, _, _, _, _]) H8 Tryz.sizeOf3 rfl rfl (by first | rfl | assumption) rfl rfl) ?_
    rintro _ w9 H9
    refine wl_nil ?_
    refine wq_end0 (.inr rfl) Tryz.results128 ?_
    have hN : N = [] := by rw [← k3_p, List.eq_nil_of_length_eq_zero hnow]; rfl
    subst hN
    rw [closeG_nil rfl]
    refine Holds.mk_ulist (gv := gv_p) (nv := .slice none 0 0) (gs := gs_p) (now := []) (ed := (uTot G [] : Nat)) ⟨k1_p.1, k1_p.2.1, by decide, by decide, k1_p.2.2.2.2⟩ k2_p rfl rfl (((H9.f4.right.f4.right.f3.f3).edL_nil none).of_eq (by unfold EdLL; ac_rfl))
theorem Holds.elK_dup (H : Holds w0 w (elK v es • F)) : Holds w0 w (elK v es • elK v es • F) := H.dup_know
theorem back_iter (b : Nat) : Iter Tryz.prog w0 (.func (.func 196) #[] #[.pointer (some ⟨b, 0, none⟩)]) (blk b (.cells #[v] 64 (0, 0)) • elK v es) es.length
    (fun k vs A => vs = [.int .i64 ((es.length - (k + 1) : Nat) : Int), .agg (es.getD (es.length - (k + 1)) default).enc.toArray] ∧ A = elK v es) := by
  intro l J X w hy H
  refine ⟨196, [], [.pointer (some ⟨b, 0, none⟩)], _, _, rfl, Tryz.func196, rfl, rfl, ?_⟩
  have H1 : Holds w0 w (blk b (.cells #[v] 64 (0, 0)) • elK v es • J 0) := H.of_eq (by ac_rfl)
  obtain ⟨a, c, hv, hc1, hc2, _⟩ := (H1.swap.elK_rd).form
  subst hv
  simp only [List.nil_append, List.cons_append]
  refine ret_enter Tryz.func196 rfl Tryz.ntmps196 (Nat.le_of_ble_eq_true rfl) ?_
  dsimp only [slots0, Nat.reduceAdd]
  refine wc_seq ?_
  refine wc_region ?_
  refine wl_val (r_load (plain_of Tryz.underlying64 rfl) rfl (cell_of_blk (H1).get.2 rfl)) (ltn rfl) ?_
  refine wl_val (r_lenS ((H1.f2).elK_rd) Tryz.underlying64 rfl) (ltn rfl) ?_
  refine wl_val (r_sub rfl rfl (by omega)) (ltn rfl) ?_
  refine wl_val (r_assign rfl) (ltn rfl) ?_
  refine wl_nil ?_
  refine wq_seq ?_
  refine wc_block ?_
  refine wc_loop [(0, _), (1, _)] (fun (k : Nat) => [(3, .int .i64 ((k : Int) - 1))]) (fun (k : Nat) W => k ≤ es.length ∧ Holds w0 W (blk b (.cells #[.slice a es.length c] 64 (0, 0)) • elK (.slice a es.length c) es • J (es.length - k))) (fun (k : Nat) => k) (es.length) (Sub.cons rfl (Sub.cons rfl (Sub.nil _))) (Sub.cons rfl (Sub.nil _)) ⟨by omega, by rw [Nat.sub_self]; exact H1⟩ ?_
  rintro k w1 ⟨hk, HL⟩
  dsimp only [List.cons_append, List.nil_append]
  refine wc_seq ?_
  refine wc_seq ?_
  refine wc_region ?_
  refine wl_val (r_move rfl) (ltn rfl) ?_
  refine wl_val (r_geq rfl rfl) (ltn rfl) ?_
  refine wl_nil ?_
  refine wq_seq ?_
  refine wc_cond rfl (fun h1 => ?_) (fun h1 => ?_)
  · (try simp only [cmpS] at h1)
    try (exfalso; first | contradiction | omega)
    all_goals
      
      refine wc_skip ?_
      refine wq_seq ?_
      refine wc_seq ?_
      refine wc_block ?_
      refine wc_seq ?_
      obtain ⟨m, rfl⟩ : ∃ m, k = m + 1 := ⟨k - 1, by omega⟩
      rw [show (((m + 1 : Nat) : Int) - 1) = (m : Int) from by omega]
      refine wc_region ?_
      refine wl_val (r_move rfl) (ltn rfl) ?_
      refine wl_val (r_move rfl) (ltn rfl) ?_
      refine wl_val (r_load (plain_of Tryz.underlying64 rfl) rfl (cell_of_blk (HL).get.2 rfl)) (ltn rfl) ?_
      refine wl_val (r_move rfl) (ltn rfl) ?_
      obtain ⟨bv, ov, cv, ev⟩ := Rd.posV ((HL.f2).elK_rd) (by omega)
      cases ev
      refine wl_val (r_index Tryz.underlying64 Tryz.sizeOf120 rfl rfl (by omega)) (ltn rfl) ?_
      refine wl_val (r_load_elem (ys := [_, _, _]) ((HL.f2).elK_rd) (by omega) Tryz.underlying120 rfl Tryz.sizeOf120 rfl (flat_elem BEd.enc_len (by omega) default) rfl) (ltn rfl) ?_
      refine wl_eff (e_yield rfl rfl (hy (es.length - (m + 1)) (by omega) _ _ ⟨by rw [show es.length - (es.length - (m + 1) + 1) = m from by omega]; rfl, rfl⟩ (elK (.slice (some ⟨bv, ov, none⟩) es.length c) es • blk b (.cells #[.slice (some ⟨bv, ov, none⟩) es.length c] 64 (0, 0))) _ (HL.swap.elK_dup.of_eq (by ac_rfl))).bool) (ltn rfl) ?_
      rintro _ w2 ⟨t, rfl, ht1, ht2⟩
      refine wl_val (r_not rfl) (ltn rfl) ?_
      refine wl_nil ?_
      refine wq_seq ?_
      refine wc_cond rfl (fun h2 => ?_) (fun h2 => ?_)
      · (try simp only [cmpS] at h2)
        try (exfalso; first | contradiction | omega)
        all_goals
          have HX := ht2 (by simpa using h2)
          refine wc_ret ?_
          refine wq_block_ret ?_
          refine wq_then_ret ?_
          refine wq_then_ret ?_
          refine wq_block_ret ?_
          refine wq_end0 (.inl rfl) Tryz.results196 ?_
          exact .inr (HX.of_eq (by ac_rfl))
      · (try simp only [cmpS] at h2)
        try (exfalso; first | contradiction | omega)
        all_goals
          have HN : Holds w0 w2 (blk b (.cells #[.slice (some ⟨bv, ov, none⟩) es.length c] 64 (0, 0)) • elK (.slice (some ⟨bv, ov, none⟩) es.length c) es • J (es.length - m)) := by
            have h9 := ht1 (by simpa using h2)
            rw [show es.length - (m + 1) + 1 = es.length - m from by omega] at h9
            exact h9.of_eq (by ac_rfl)
          refine wc_skip ?_
          refine wq_block_normal ?_
          refine wq_seq ?_
          refine wc_region ?_
          refine wl_val (r_move rfl) (ltn rfl) ?_
          refine wl_val (r_sub rfl rfl (by omega)) (ltn rfl) ?_
          refine wl_val (r_assign rfl) (ltn rfl) ?_
          refine wl_nil ?_
          refine wq_round (m) ?_ ?_ ?_ ?_
          · exact (Sub.cons rfl (Sub.nil _))
          · exact (Sub.cons rfl (Sub.cons rfl (Sub.nil _)))
          · (try dsimp only)
            first | done | exact ⟨by omega, HN.f2.f2⟩
          · (try dsimp only); omega
  · (try simp only [cmpS] at h1)
    try (exfalso; first | contradiction | omega)
    all_goals
      
      refine wc_exit ?_
      refine wq_then_exit ?_
      refine wq_then_exit ?_
      refine wq_block_hit ?_
      refine wq_end0 (.inr rfl) Tryz.results196 ?_
      obtain rfl : k = 0 := by omega
      rw [Nat.sub_zero] at HL
      exact .inl (HL.of_eq (by ac_rfl))
end
end Go.Proofs.YtgmpclifphbjkaaGreatDoor
end
section
/- Lists of edits that are taken back: inverses, Undo. -/
set_option linter.unusedSimpArgs false
set_option linter.unusedVariables false
namespace Go.Proofs.YtgmpclifphbjkaaGreatDoor
open Go.RowKit
def invA (e : EdA) : EdA := (e.1, e.2.2, e.2.1)
def invHP (c : Nat) (es : List BEd) (k : Nat) : HP := exHP fun (x : Value × List BEd) => fact (x.2.map BEd.says = ((es.map BEd.says).reverse.take k).map invA) • blk c (.cells #[x.1] 64 (0, 0)) • EdL x.1 x.2
theorem inv_succ {es : List BEd} {k : Nat} (hk : k < es.length) : ((es.map BEd.says).reverse.take (k + 1)).map invA = ((es.map BEd.says).reverse.take k).map invA ++ [invA (es.getD (es.length - (k + 1)) default).says] := by
  rw [List.take_succ_eq_append_getElem (by simpa using hk), List.map_append]
  congr 1
  simp only [List.map_cons, List.map_nil, List.getElem_reverse, List.getElem_map, List.length_map]
  rw [List.getD_eq_getElem?_getD, List.getElem?_eq_getElem (by omega)]
  have e : es.length - 1 - k = es.length - (k + 1) := by omega
  simp only [Option.getD_some, e]
section
variable {w0 w : World} {F : HP} {p : Nat} {G : List (List EdA)} {N : List EdA} {op : Int} {gv nv v : Value} {gs : List (Value × List BEd)} {now es : List BEd} {a : Int} {d z : Value} {dl il : List Int}
theorem Holds.inv_open {c k : Nat} (H : Holds w0 w (invHP c es k • F)) : ∃ u fs, fs.map BEd.says = ((es.map BEd.says).reverse.take k).map invA ∧ fs.length ≤ es.length ∧ Holds w0 w (blk c (.cells #[u] 64 (0, 0)) • Row 120 3 u fs.length (fs.flatMap BEd.enc) • edsK fs • F) := by
  obtain ⟨⟨u, fs⟩, H⟩ := H.ex_sep
  obtain ⟨h, H⟩ := H.flat.fact
  refine ⟨u, fs, h, ?_, ?_⟩
  · have := congrArg List.length h
    simp at this
    omega
  · have := H.flat
    unfold EdL at this
    exact this.of_eq (by ac_rfl)
theorem Holds.mk_inv {c k : Nat} {u : Value} {fs : List BEd} (h : fs.map BEd.says = ((es.map BEd.says).reverse.take k).map invA) (H : Holds w0 w (blk c (.cells #[u] 64 (0, 0)) • EdL u fs • F)) : Holds w0 w (invHP c es k • F) :=
  Holds.mk_ex_sep (u, fs) (Holds.deep (Holds.mk_fact h H.deep))
theorem Holds.elK_at (H : Holds w0 w (elK v es • F)) {k : Nat} (hk : k < es.length) : Holds w0 w (immI .i32 (es.getD k default).d (es.getD k default).dl • immI .i32 (es.getD k default).i (es.getD k default).il • elK v es • F) := by
  have h1 : Holds w0 w (immI .i32 (es.getD k default).d (es.getD k default).dl • elK v es • elK v es • F) := H.elK_dup.elK_dup.ent (know_ent (fun I h => (h.2 k hk).1) _)
  have h2 : Holds w0 w (immI .i32 (es.getD k default).i (es.getD k default).il • immI .i32 (es.getD k default).d (es.getD k default).dl • elK v es • F) := h1.swap.ent (know_ent (fun I h => (h.2 k hk).2) _)
  exact h2.swap
theorem back_ret (H : Holds w0 w F) (hv : v.oneCell' = true) : Ret Tryz.prog 172 #[v] w fun v' w' => ∃ b, v' = .func (.func 196) #[] #[.pointer (some ⟨b, 0, none⟩)] ∧ Holds w0 w' (blk b (.cells #[v] 64 (0, 0)) • F) := by
  refine ret_enter Tryz.func172 rfl Tryz.ntmps172 (Nat.le_of_ble_eq_true rfl) ?_
  dsimp only [slots0, Nat.reduceAdd]
  refine wc_seq ?_
  refine wc_region ?_
  refine wl_eff (e_boxL (l := [_]) H rfl (by first | rfl | exact one_cells (by first | rfl | assumption))) (ltn rfl) ?_
  rintro _ w1 ⟨b1, rfl, H1⟩
  refine wl_val (r_assign rfl) (ltn rfl) ?_
  refine wl_nil ?_
  refine wq_seq ?_
  refine wc_seq ?_
  refine wc_region ?_
  refine wl_val (r_makeFunc rfl rfl) (ltn rfl) ?_
  refine wl_val (r_assign rfl) (ltn rfl) ?_
  refine wl_nil ?_
  refine wq_seq ?_
  refine wc_ret ?_
  refine wq_end1 (.inl rfl) Tryz.results172 rfl ?_
  exact ⟨_, rfl, H1⟩
theorem undo_inverses_ret (H : Holds w0 w (elK v es • F)) (hB : ∀ k, k < es.length → EB (es.getD k default).says) (hL : es.length ≤ 16384) :
    Ret Tryz.prog 129 #[v] w fun v' w' => ∃ fs : List BEd, fs.map BEd.says = (es.map BEd.says).reverse.map invA ∧ Holds w0 w' (Row 120 3 v' fs.length (fs.flatMap BEd.enc) • edsK fs • elK v es • F) := by
  refine ret_enter Tryz.func129 rfl Tryz.ntmps129 (Nat.le_of_ble_eq_true rfl) ?_
  dsimp only [slots0, Nat.reduceAdd]
  refine wc_seq ?_
  refine wc_region ?_
  refine wl_val (r_assign rfl) (ltn rfl) ?_
  refine wl_nil ?_
  refine wq_seq ?_
  refine wc_seq ?_
  refine wc_region ?_
  refine wl_eff (e_allocL (l := [_]) H Tryz.zeroValue64 rfl) (ltn rfl) ?_
  rintro _ w1 ⟨b1, rfl, H1⟩
  refine wl_nil ?_
  refine wq_seq ?_
  refine wc_seq ?_
  refine wc_seq ?_
  refine wc_region ?_
  refine wl_val (r_move rfl) (ltn rfl) ?_
  refine wl_eff (e_call (r_call rfl Tryz.func172 rfl rfl) (back_ret H1 (Rd.one ((H1.f2).elK_rd)))) (ltn rfl) ?_
  rintro _ w2 ⟨bB2, rfl, H2⟩
  refine wl_nil ?_
  refine wq_seq ?_
  refine wc_block ?_
  have Ho3 := H2.f2
  have Hc4 := Holds.mk_inv (es := es) (k := 0) (fs := []) rfl (Ho3.edL_nil none).swap
  refine wc_rangeFunc rfl (back_iter bB2) (fun k => invHP b1 es k • F) (fact False) (fun _ => fact False) (Hc4.f3.f3.f3.f3.f3.g2.comm) (by rfl) ?_ ?_ ?_ ?_
  · rintro l5 k hkR0 vs5 A5 ⟨rfl, rfl⟩ G5 w5 H5
    try simp only [sep_assoc, emp_sep, sep_emp] at H5
    refine ⟨rfl, ?_⟩
    dsimp only [zipL]
    have Hq := (H5).elK_at (k := es.length - (k + 1)) (by omega)
    obtain ⟨hb1, hb2⟩ := hB (es.length - (k + 1)) (by omega)
    have hb1 : (es.getD (es.length - (k + 1)) default).dl.length ≤ 35184372087808 := hb1
    have hb2 : (es.getD (es.length - (k + 1)) default).il.length ≤ 35184372087808 := hb2
    obtain ⟨u, fs, hfs, hfl, HI⟩ := (Hq.f4).inv_open
    refine wc_region ?_
    refine wl_eff (e_allocL (l := [_, _, _]) HI Tryz.zeroValue120 rfl) (ltn rfl) ?_
    rintro _ w6 ⟨b6, rfl, H6⟩
    refine wl_eff0 (e_storePL 0 (l' := [_, _, _]) (us := [_, _, _]) H6 Tryz.sizeOf120 rfl rfl rfl (ones_cons (by first | rfl | assumption) (ones_cons (by first | rfl | exact Rd.one ((H6.f5).imm_rd)) (ones_cons (by first | rfl | exact Rd.one ((H6.f6).imm_rd)) ones_nil))) rfl rfl) ?_
    rintro _ w7 H7
    refine wl_nil ?_
    refine wq_mid (H7.g8) ?_
    intro G8 w8 H8
    try simp only [sep_assoc] at H8
    refine wc_block ?_
    have H4d8 := H8.drew
    have hS4d8 := Holds.kp (H4d8.f7.f7.f7.f7.f7.f7.f7)
    refine wd_beginK [0, 1] hS4d8 (by kernel_rfl) (by kernel_rfl) rfl ?_
    refine wd_take 0 rfl (by kernel_rfl) (by kernel_rfl) hS4d8 (by decide) (fun W hW => r_load (plain_of Tryz.underlying64 rfl) rfl (cell_of_blk ((Kp.h hW).f2).get.2 rfl)) (ltn rfl) ?_
    refine wd_take 1 rfl (by kernel_rfl) (by kernel_rfl) hS4d8 (by decide) (fun W hW => r_load_whole Tryz.underlying120 rfl Tryz.sizeOf120 rfl rfl ((Kp.h hW)).get.2) (ltn rfl) ?_
    refine wd_eff 2 rfl (by kernel_rfl) (e_call (r_call rfl Tryz.func173 rfl rfl) (undo_inverse_ret H4d8 (fun W HW => (HW.f5).imm_rd) (fun W HW => (HW.f6).imm_rd) (by omega) (by omega))) (ltn rfl) ?_
    rintro _ w9 ⟨d9, s9, rfl, H9⟩
    have hS9n := Holds.kp (H9.f9.f9.f9.f9.f9.f9.f9.f9.f9)
    refine keepK hS9n (fun W hW => (Kp.h hW).right.right.f7.f7.f7.f7.f7.f7.f7) ?_
    refine wd_eff 3 rfl (by kernel_rfl) (e_lit_one H9 Tryz.underlying64 Tryz.sizeOf120 Tryz.zeroValue120 rfl rfl rfl (by decide) (by decide)) (ltn rfl) ?_
    rintro l10 w10 H10
    have hS10n := Holds.kp (H10.f10.f10.f10.f10.f10.f10.f10.f10.f10.f10)
    refine keepK hS10n (fun W hW => (Kp.h hW).right.f9.f9.f9.f9.f9.f9.f9.f9.f9) ?_
    refine wd_eff 4 rfl (by kernel_rfl) (e_append H10.f6 Tryz.underlying64 (show (Tryz.prog.info? 120).map (fun i => (i.zero, i.size, i.bytes)) = some (some (.agg #[.int .i64 0, .slice none 0 0, .slice none 0 0]), 3, 56) by kernel_rfl) rfl rfl rfl ((H10).row_rd) (ones_cons (by first | rfl | assumption) (ones_cons (by first | rfl | exact Rd.one ((H10.f2).row_rd)) (ones_cons (by first | rfl | exact Rd.one ((H10.f3).row_rd)) ones_nil))) (by omega) (by omega)) (ltn rfl) ?_
    rintro l11 w11 H11
    have Hd12 := H11.f2.right
    have hS12n := Holds.kp (Hd12.f9.f9.f9.f9.f9.f9.f9.f9.f9)
    refine keepX hS12n (by kernel_rfl) ?_
    refine wd_eff0 5 rfl (by kernel_rfl) (e_storeL 0 (l' := [_]) Hd12.f5 Tryz.sizeOf64 rfl rfl (by first | rfl | exact Rd.one ((Hd12).row_rd)) rfl rfl) ?_
    rintro _ w13 H13
    have hS13n := Holds.kp (H13.f9.f9.f9.f9.f9.f9.f9.f9.f9)
    refine keepX hS13n (by kernel_rfl) ?_
    refine wd_done (by kernel_rfl) ?_
    refine wq_block_normal ?_
    refine wq_rnormal ?_
    have X := (H13.f5.right.f6.right.f6.right.f6.right.f6.f2.f6.f4.f6.f6).freezeI.swap.freezeI.swap
    have X2 := Holds.edL_snoc X.f3
    exact (Holds.mk_inv (es := es) (k := k + 1) (by rw [List.map_append, hfs, inv_succ (by omega)]; rfl) X2.swap).deep
  · rintro D14 w14 H14
    have H14d := H14.ed
    try simp only [sep_assoc, emp_sep, sep_emp] at H14d
    have H14m := H14d.mark1
    obtain ⟨u, fs, hfs, hfl, HI⟩ := (H14m.f4).inv_open
    refine wq_block_normal ?_
    refine wq_seq ?_
    refine wc_seq ?_
    refine wc_region ?_
    refine wl_val (r_load (plain_of Tryz.underlying64 rfl) rfl (cell_of_blk (HI).get.2 rfl)) (ltn rfl) ?_
    refine wl_val (r_assign rfl) (ltn rfl) ?_
    refine wl_nil ?_
    refine wq_seq ?_
    refine wc_ret ?_
    refine wq_endM (.inl rfl) (HI.f4) (fun w15 H15 => ?_)
    refine ⟨_, res1 Tryz.results129 rfl, ?_⟩
    rw [List.take_of_length_le (by simp)] at hfs
    exact ⟨_, hfs, H15.right.f3.right.f3.f3.f3⟩
  · rintro D w H; exact absurd H.swap.fact.1 id
  · rintro id D w H; exact absurd H.swap.fact.1 fun h => h
end
end Go.Proofs.YtgmpclifphbjkaaGreatDoor
end
section
/- Lists of edits that are taken back: Undo. -/
set_option linter.unusedSimpArgs false
set_option linter.unusedVariables false
namespace Go.Proofs.YtgmpclifphbjkaaGreatDoor
open Go.RowKit
def undoE (G : List (List EdA)) (N : List EdA) : Int := if G.length + N.length = 0 then 6 else 0
def undoG (G : List (List EdA)) (N : List EdA) : List (List EdA) := if G.length + N.length = 0 then G else (closeG G N).dropLast
def undoN (G : List (List EdA)) (N : List EdA) : List EdA := if G.length + N.length = 0 then N else []
def undoO (G : List (List EdA)) (N : List EdA) (op : Int) : Int := if G.length + N.length = 0 then op else 0
def undoR (G : List (List EdA)) (N : List EdA) : List EdA := if G.length + N.length = 0 then [] else ((closeG G N).getLastD []).reverse.map invA
theorem uTot_snoc {G : List (List EdA)} {g N : List EdA} : uTot (G ++ [g]) N = uTot G N + g.length := by simp [uTot]; omega
section
variable {w0 w : World} {F : HP} {p : Nat} {G : List (List EdA)} {N : List EdA} {op : Int} {gv nv v : Value} {gs : List (Value × List BEd)} {now es : List BEd} {a : Int} {d z : Value} {dl il : List Int}
theorem closeG_pos (h : ¬ G.length + N.length = 0) : closeG G N ≠ [] := by
  unfold closeG; split
  · rename_i hN; rintro rfl; subst hN; exact h rfl
  · simp
/-- The last group of a list in which nothing is open. -/
theorem Holds.ulist_last (H : Holds w0 w (UList p G [] op • F)) (hG : G ≠ []) : ∃ gv nv hs gl ges, G = hs.map (fun g => g.2.map BEd.says) ++ [ges.map BEd.says] ∧ UOk G [] op ∧ G.length = hs.length + 1 ∧ hs.length ≤ 16384 ∧ ges.length ≤ 16384 ∧ (∀ k, k < ges.length → EB (ges.getD k default).says) ∧
    Holds w0 w (blk p (.cells #[gv, nv, .int .i64 op, .int .i64 (uTot G [] : Nat), .bool true] 171 (0, 0)) • Row 64 1 gv (hs.length + 1) (hs.map (·.1) ++ [gl]) • elsK hs • elK gl ges • EdL nv [] • F) := by
  obtain ⟨gv, nv, gs, now, h1, h2, h3, h4, h5, h6, H⟩ := H.ulist
  obtain rfl : now = [] := List.eq_nil_of_length_eq_zero (by simpa using h5)
  rcases List.eq_nil_or_concat gs with rfl | ⟨hs, ⟨gl, ges⟩, rfl⟩
  · exact absurd h2.symm hG
  · have hG2 : G = hs.map (fun g => g.2.map BEd.says) ++ [ges.map BEd.says] := by rw [← h2]; simp
    have hle : ges.length ≤ 16384 := by
      have := h1.2.1
      rw [hG2, uTot_snoc] at this
      simp at this
      omega
    refine ⟨gv, nv, hs, gl, ges, hG2, h1, ?_, ?_, hle, fun k hk => ?_, ?_⟩
    · rw [hG2]; simp
    · rw [hG2] at h6; simp at h6; omega
    · refine h1.2.2.2.2.1 (ges.map BEd.says) (by rw [hG2]; simp) _ ?_
      rw [List.getD_eq_getElem?_getD, List.getElem?_eq_getElem hk]
      exact List.mem_map_of_mem (List.getElem_mem hk)
    · rw [List.concat_eq_append, List.length_append, List.map_append] at H
      have H1 := (H.f3.elsK_get (k := hs.length) (by simp)).swap
      rw [show (hs ++ [(gl, ges)]).getD hs.length default = (gl, ges) from by simp [List.getD_eq_getElem?_getD]] at H1
      have H2 := H1.elsK_cut hs.length
      rw [List.take_left' rfl] at H2
      exact H2.of_eq (by unfold EdL; ac_rfl)
theorem undo_undo_ret (H : Holds w0 w (UList p G N op • F)) : Ret Tryz.prog 58 #[.pointer (some ⟨p, 0, none⟩)] w fun v w' => ∃ u, ∃ fs : List BEd, v = .tuple #[u, .int .i64 (undoE G N)] ∧ fs.map BEd.says = undoR G N ∧
    Holds w0 w' (Row 120 3 u fs.length (fs.flatMap BEd.enc) • edsK fs • UList p (undoG G N) (undoN G N) (undoO G N op) • F) := by
  unfold undoE undoR undoG undoN undoO
  refine ret_enter Tryz.func58 rfl Tryz.ntmps58 (Nat.le_of_ble_eq_true rfl) ?_
  dsimp only [slots0, Nat.reduceAdd]
  refine wc_seq ?_
  refine wc_region ?_
  refine wl_val (r_assign rfl) (ltn rfl) ?_
  refine wl_val (r_assign rfl) (ltn rfl) ?_
  refine wl_nil ?_
  refine wq_seq ?_
  refine wc_seq ?_
  refine wc_seq ?_
  refine wc_region ?_
  refine wl_val (r_move rfl) (ltn rfl) ?_
  refine wl_eff (e_call (r_call rfl Tryz.func127 rfl rfl) (undo_none_ret H)) (ltn rfl) ?_
  rintro _ _ ⟨rfl, rfl⟩
  refine wl_nil ?_
  refine wq_seq ?_
  refine wc_cond_f rfl ?_
  refine wc_skip ?_
  refine wq_seq ?_
  refine wc_seq ?_
  refine wc_seq ?_
  obtain ⟨gv_p, nv_p, gs_p, now_p, k1_p, k2_p, k3_p, k4_p, k5_p, k6_p, HU_p⟩ := (H).ulist
  have H3d2 := HU_p.drew
  have hS3d2 := Holds.kp (H3d2.f5.f5.f5.f5.f5)
  refine wd_beginK [4, 10] hS3d2 (by kernel_rfl) (by kernel_rfl) rfl ?_
  refine wd_takeT 0 rfl (by kernel_rfl) (by kernel_rfl) hS3d2 (fun _ => r_move rfl) (ltn rfl) ?_
  refine wd_takeT 1 rfl (by kernel_rfl) (by kernel_rfl) hS3d2 (fun _ => r_nil rfl) (ltn rfl) ?_
  refine wd_takeT 2 rfl (by kernel_rfl) (by kernel_rfl) hS3d2 (fun _ => r_fieldA 0 Tryz.underlying171 rfl rfl Tryz.sizeOf169 (by decide) rfl (by first | exact Nat.zero_add _ | rfl)) (ltn rfl) ?_
  refine wd_takeT 3 rfl (by kernel_rfl) (by kernel_rfl) hS3d2 (fun _ => r_fieldA 0 Tryz.underlying169 rfl rfl Tryz.sizeOf167 (by decide) rfl (by first | exact Nat.zero_add _ | rfl)) (ltn rfl) ?_
  refine wd_take 4 rfl (by kernel_rfl) (by kernel_rfl) hS3d2 (by decide) (fun W hW => r_load (plain_of Tryz.underlying167 rfl) rfl (cell_of_blk ((Kp.h hW)).get.2 rfl)) (ltn rfl) ?_
  refine wd_takeT 5 rfl (by kernel_rfl) (by kernel_rfl) hS3d2 (fun _ => r_lenS ((H3d2.f2).row_rd) Tryz.underlying167 rfl) (ltn rfl) ?_
  refine wd_takeT 6 rfl (by kernel_rfl) (by kernel_rfl) hS3d2 (fun _ => r_move rfl) (ltn rfl) ?_
  refine wd_takeT 7 rfl (by kernel_rfl) (by kernel_rfl) hS3d2 (fun _ => r_nil rfl) (ltn rfl) ?_
  refine wd_takeT 8 rfl (by kernel_rfl) (by kernel_rfl) hS3d2 (fun _ => r_fieldA 0 Tryz.underlying171 rfl rfl Tryz.sizeOf169 (by decide) rfl (by first | exact Nat.zero_add _ | rfl)) (ltn rfl) ?_
  refine wd_takeT 9 rfl (by kernel_rfl) (by kernel_rfl) hS3d2 (fun _ => r_fieldA 1 Tryz.underlying169 rfl rfl Tryz.sizeOf64 (by decide) rfl (by first | exact Nat.zero_add _ | rfl)) (ltn rfl) ?_
  refine wd_take 10 rfl (by kernel_rfl) (by kernel_rfl) hS3d2 (by decide) (fun W hW => r_load (plain_of Tryz.underlying64 rfl) rfl (cell_of_blk ((Kp.h hW)).get.2 rfl)) (ltn rfl) ?_
  refine wd_takeT 11 rfl (by kernel_rfl) (by kernel_rfl) hS3d2 (fun _ => r_lenS ((H3d2.f4).row_rd) Tryz.underlying64 rfl) (ltn rfl) ?_
  refine wd_takeT 12 rfl (by kernel_rfl) (by kernel_rfl) hS3d2 (fun _ => r_add rfl rfl (by omega)) (ltn rfl) ?_
  refine wd_takeT 13 rfl (by kernel_rfl) (by kernel_rfl) hS3d2 (fun _ => r_eql rfl rfl) (ltn rfl) ?_
  refine wd_done (by kernel_rfl) ?_
  refine wq_seq ?_
  refine wc_cond rfl (fun h1 => ?_) (fun h1 => ?_)
  · (try simp only [cmpS] at h1)
    have hGN : G.length + N.length = 0 := by omega
    have Ho4 := H3d2.f5.f5.f5.f5.f5
    have Hc5 := Holds.mk_ulistF k1_p k2_p k3_p rfl Ho4
    refine wc_seq ?_
    refine wc_region ?_
    refine wl_val (r_assign rfl) (ltn rfl) ?_
    refine wl_val (r_assign rfl) (ltn rfl) ?_
    refine wl_nil ?_
    refine wq_seq ?_
    refine wc_ret ?_
    refine wq_then_ret ?_
    refine wq_end2 (.inl rfl) Tryz.results58 rfl rfl ?_
    simp only [if_pos hGN]
    exact ⟨_, [], rfl, rfl, ((Hc5).edL_nil none).edL⟩
  · (try simp only [cmpS] at h1)
    have hGN : ¬ G.length + N.length = 0 := by omega
    have Ho7 := H3d2.f5.f5.f5.f5.f5
    have Hc8 := Holds.mk_ulistF k1_p k2_p k3_p rfl Ho7
    refine wc_skip ?_
    refine wq_seq ?_
    refine wc_seq ?_
    refine wc_region ?_
    refine wl_val (r_move rfl) (ltn rfl) ?_
    refine wl_eff (e_call (r_call rfl Tryz.func128 rfl rfl) (undo_close_ret Hc8)) (ltn rfl) ?_
    rintro _ w9 H9
    refine wl_nil ?_
    refine wq_seq ?_
    refine wc_seq ?_
    obtain ⟨gv, nv, hs, gl, ges, hG, hok, hl1, hl2, hl3, hEB, HU⟩ := (H9).ulist_last (closeG_pos hGN)
    have htot := hok.2.1
    refine wc_region ?_
    refine wl_val (r_move rfl) (ltn rfl) ?_
    refine wl_val (r_nil rfl) (ltn rfl) ?_
    refine wl_val (r_fieldA 0 Tryz.underlying171 rfl rfl Tryz.sizeOf169 (by decide) rfl (by first | exact Nat.zero_add _ | rfl)) (ltn rfl) ?_
    refine wl_val (r_fieldA 0 Tryz.underlying169 rfl rfl Tryz.sizeOf167 (by decide) rfl (by first | exact Nat.zero_add _ | rfl)) (ltn rfl) ?_
    refine wl_val (r_load (plain_of Tryz.underlying167 rfl) rfl (cell_of_blk (HU).get.2 rfl)) (ltn rfl) ?_
    refine wl_val (r_lenS ((HU.f2).row_rd) Tryz.underlying167 rfl) (ltn rfl) ?_
    refine wl_val (r_sub rfl rfl (by omega)) (ltn rfl) ?_
    refine wl_val (r_assign rfl) (ltn rfl) ?_
    refine wl_nil ?_
    refine wq_seq ?_
    refine wc_seq ?_
    refine wc_region ?_
    refine wl_val (r_move rfl) (ltn rfl) ?_
    refine wl_val (r_nil rfl) (ltn rfl) ?_
    refine wl_val (r_fieldA 0 Tryz.underlying171 rfl rfl Tryz.sizeOf169 (by decide) rfl (by first | exact Nat.zero_add _ | rfl)) (ltn rfl) ?_
    refine wl_val (r_fieldA 0 Tryz.underlying169 rfl rfl Tryz.sizeOf167 (by decide) rfl (by first | exact Nat.zero_add _ | rfl)) (ltn rfl) ?_
    refine wl_val (r_load (plain_of Tryz.underlying167 rfl) rfl (cell_of_blk (HU).get.2 rfl)) (ltn rfl) ?_
    refine wl_val (r_move rfl) (ltn rfl) ?_
    obtain ⟨bgv, ogv, cgv, egv⟩ := Rd.posV ((HU.f2).row_rd) (by omega)
    cases egv
    refine wl_val (r_index Tryz.underlying167 Tryz.sizeOf64 rfl rfl (by omega)) (ltn rfl) ?_
    refine wl_val (r_load (plain_of Tryz.underlying64 rfl) rfl (by first | exact Rd.at1n ((HU.f2).row_rd) (by omega) | exact Rd.at0 ((HU.f2).row_rd) (by omega) | exact Rd.at1 ((HU.f2).row_rd) (by omega))) (ltn rfl) ?_
    rw [show (hs.map (·.1) ++ [gl]).getD ((((hs.length + 1 : Nat)) : Int) - 1).toNat undef = gl from by rw [show ((((hs.length + 1 : Nat)) : Int) - 1).toNat = hs.length from by omega]; simp [List.getD_eq_getElem?_getD]]
    refine wl_val (r_assign rfl) (ltn rfl) ?_
    refine wl_nil ?_
    refine wq_seq ?_
    refine wc_seq ?_
    refine wc_region ?_
    refine wl_val (r_move rfl) (ltn rfl) ?_
    refine wl_val (r_move rfl) (ltn rfl) ?_
    refine wl_val (r_nil rfl) (ltn rfl) ?_
    refine wl_val (r_fieldA 0 Tryz.underlying171 rfl rfl Tryz.sizeOf169 (by decide) rfl (by first | exact Nat.zero_add _ | rfl)) (ltn rfl) ?_
    refine wl_val (r_fieldA 0 Tryz.underlying169 rfl rfl Tryz.sizeOf167 (by decide) rfl (by first | exact Nat.zero_add _ | rfl)) (ltn rfl) ?_
    refine wl_val (r_load (plain_of Tryz.underlying167 rfl) rfl (cell_of_blk (HU).get.2 rfl)) (ltn rfl) ?_
    refine wl_val (r_move rfl) (ltn rfl) ?_
    refine wl_val (r_sliceS ((HU.f2).row_rd) Tryz.underlying167 Tryz.sizeOf64 rfl rfl rfl (by omega)) (ltn rfl) ?_
    refine wl_val (r_nil rfl) (ltn rfl) ?_
    refine wl_val (r_fieldA 0 Tryz.underlying171 rfl rfl Tryz.sizeOf169 (by decide) rfl (by first | exact Nat.zero_add _ | rfl)) (ltn rfl) ?_
    refine wl_val (r_fieldA 0 Tryz.underlying169 rfl rfl Tryz.sizeOf167 (by decide) rfl (by first | exact Nat.zero_add _ | rfl)) (ltn rfl) ?_
    refine wl_eff0 (e_storeL 0 (l' := [_, _, _, _, _]) HU Tryz.sizeOf167 rfl rfl (by first | rfl | exact Rd.one (Rd.upto1 ((HU.f2).row_rd) (by omega))) rfl rfl) ?_
    rintro _ w10 H10
    refine wl_nil ?_
    refine wq_seq ?_
    refine wc_seq ?_
    refine wc_region ?_
    refine wl_val (r_move rfl) (ltn rfl) ?_
    refine wl_val (r_nil rfl) (ltn rfl) ?_
    refine wl_val (r_fieldA 0 Tryz.underlying171 rfl rfl Tryz.sizeOf169 (by decide) rfl (by first | exact Nat.zero_add _ | rfl)) (ltn rfl) ?_
    refine wl_val (r_fieldA 3 Tryz.underlying169 rfl rfl Tryz.sizeOf3 (by decide) rfl (by first | exact Nat.zero_add _ | rfl)) (ltn rfl) ?_
    refine wl_val (r_load (plain_of Tryz.underlying3 rfl) rfl (cell_of_blk (H10).get.2 rfl)) (ltn rfl) ?_
    refine wl_val (r_move rfl) (ltn rfl) ?_
    refine wl_val (r_lenS ((H10.f4).elK_rd) Tryz.underlying64 rfl) (ltn rfl) ?_
    refine wl_val (r_sub rfl rfl (by omega)) (ltn rfl) ?_
    refine wl_val (r_nil rfl) (ltn rfl) ?_
    refine wl_val (r_fieldA 0 Tryz.underlying171 rfl rfl Tryz.sizeOf169 (by decide) rfl (by first | exact Nat.zero_add _ | rfl)) (ltn rfl) ?_
    refine wl_val (r_fieldA 3 Tryz.underlying169 rfl rfl Tryz.sizeOf3 (by decide) rfl (by first | exact Nat.zero_add _ | rfl)) (ltn rfl) ?_
    refine wl_eff0 (e_storeL 3 (l' := [_, _, _, _, _]) H10 Tryz.sizeOf3 rfl rfl (by first | rfl | assumption) rfl rfl) ?_
    rintro _ w11 H11
    refine wl_nil ?_
    refine wq_seq ?_
    refine wc_seq ?_
    refine wc_region ?_
    refine wl_val (r_move rfl) (ltn rfl) ?_
    refine wl_eff (e_call (r_call rfl Tryz.func129 rfl rfl) (undo_inverses_ret H11.f4 hEB hl3)) (ltn rfl) ?_
    rintro u12 w12 ⟨fs12, hfs12, H12⟩
    refine wl_val (r_assign rfl) (ltn rfl) ?_
    refine wl_val (r_assign rfl) (ltn rfl) ?_
    refine wl_nil ?_
    refine wq_seq ?_
    refine wc_ret ?_
    refine wq_end2 (.inl rfl) Tryz.results58 rfl rfl ?_
    simp only [if_neg hGN]
    have hdl : (closeG G N).dropLast = hs.map (fun g => g.2.map BEd.says) := by rw [hG]; simp
    have hlast : (closeG G N).getLastD [] = ges.map BEd.says := by rw [hG]; simp
    have hX := (H12.f3.right.f6.f6.f5.f5.f5.f6).row_cut0 (h := hs.length) (by omega)
    rw [hdl, hlast]
    rw [Nat.mul_one, List.take_left' (by simp), show (((hs.length + 1 : Nat) : Int) - 1).toNat = hs.length from by omega, show Int.toNat 0 = 0 from rfl] at hX
    have hT : uTot (closeG G N) [] = uTot (hs.map (fun g => g.2.map BEd.says)) [] + ges.length := by rw [hG, uTot_snoc, List.length_map]
    have hok2 : UOk (hs.map (fun g => g.2.map BEd.says)) [] 0 := ⟨fun g hg => hok.1 g (by rw [hG]; exact List.mem_append_left _ hg), by omega, by decide, by decide, fun g hg => hok.2.2.2.2.1 g (by rw [hG]; exact List.mem_append_left _ hg), by simp⟩
    refine ⟨_, _, rfl, (by assumption), ?_⟩
    have hU := Holds.mk_ulist (gv := cutV 1 0 hs.length (.slice (some ⟨bgv, ogv, none⟩) (hs.length + 1) cgv)) (nv := nv) (gs := hs) (now := []) (ed := (uTot (closeG G N) [] : Nat) - (ges.length : Int)) (F := Row 120 3 u12 fs12.length (fs12.flatMap BEd.enc) • edsK fs12 • F) hok2 rfl rfl (by omega) (hX.of_eq (by unfold EdLL; ac_rfl))
    exact hU.of_eq (by ac_rfl)
end
end Go.Proofs.YtgmpclifphbjkaaGreatDoor
end
