/- The second form: how long the pieces are together. -/
import Derived.Test.YtgoopiakpbcgoaaUpto
set_option linter.unusedVariables false
namespace Go.Proofs.Ytgoopiakpbcgoaa
open Go.ChangeShapes Go.WideShapes Go.ChangeAt Go.RowKit
theorem len_four {α : Type _} {l : List α} (h : l.length = 4) : ∃ a b c d, l = [a, b, c, d] := by match l, h with | [a, b, c, d], _ => exact ⟨a, b, c, d, rfl⟩
theorem InsB.four {H : Type} {B : Nat} {enc : TypeId × Value → H} {P : Program} {W : World} {args : Array Value} {t1 t2 t3 t4 : TypeId} (h : InsB B enc P W [t1, t2, t3, t4] args.toList) : ∃ v1 v2 v3 v4, args = #[v1, v2, v3, v4] ∧ ((∃ base, Value.okWide P W .any base t1 v1) ∧ InB B enc P W t1 v1.cells.toList) ∧ ((∃ base, Value.okWide P W .any base t2 v2) ∧ InB B enc P W t2 v2.cells.toList) ∧ ((∃ base, Value.okWide P W .any base t3 v3) ∧ InB B enc P W t3 v3.cells.toList) ∧ ((∃ base, Value.okWide P W .any base t4 v4) ∧ InB B enc P W t4 v4.cells.toList) := by
  obtain ⟨v1, w1, e, h1, i1, r1⟩ := h.cons; obtain ⟨v2, w2, rfl, h2, i2, r2⟩ := r1.cons; obtain ⟨v3, w3, rfl, h3, i3, r3⟩ := r2.cons; obtain ⟨v4, w4, rfl, h4, i4, r4⟩ := r3.cons; obtain rfl := r4.nil'
  exact ⟨v1, v2, v3, v4, by cases args; simp_all, ⟨h1, i1⟩, ⟨h2, i2⟩, ⟨h3, i3⟩, ⟨h4, i4⟩⟩
section
variable {H : Type} {P : Program} {enc : TypeId × Value → H} {W : World}
theorem sum_le : ∀ {ls : List (List Int)} {ds : List (DataW H)}, ls.length = ds.length → (∀ j d, ds[j]? = some d → (ls.getD j []).length ≤ Rows.uptoBulk d) → (ls.map List.length).sum ≤ Rows.uptoBulkAll ds
  | [], _, _, _ => by simp
  | l :: ls, [], h, _ => by simp at h
  | l :: ls, d :: ds, h, k => by
    have h1 := k 0 d rfl
    have h2 := sum_le (ls := ls) (ds := ds) (by simpa using h) fun j d hj => by simpa using k (j + 1) d (by simpa using hj)
    simp only [List.map_cons, List.sum_cons, Rows.uptoBulkAll]
    have h3 : (l : List Int).length ≤ Rows.uptoBulk d := by simpa using h1
    omega
theorem len_bulk {t e : TypeId} {fuel : Nat} {a : Option Addr} {n c : Nat} {d : DataW H} {p : List MemPlace} (ht : P.underlying t = some (.slice e)) (h : DataW.trod enc P W 0 (fun _ => true) true fuel t [.slice a n c] = some (d, p)) : n ≤ Rows.uptoBulk d := by
  rcases DataW.trod_slice ht h with ⟨e1, hx⟩ | ⟨a, len, cap, elems, rest, m, -, e1, hx, -, hl, hm, hel, hget, -⟩
  · simp only [List.cons.injEq, Value.slice.injEq, and_true] at e1
    omega
  · simp only [Prod.mk.injEq] at hx
    obtain ⟨rfl, -⟩ := hx
    simp only [List.cons.injEq, Value.slice.injEq, and_true] at e1
    have := bulk_len (elems.map (·.1))
    rw [List.length_map] at this
    simp only [Rows.uptoBulk]
    omega
theorem len_bulk_row {t e : TypeId} {fuel : Nat} {v : Value} {n sz : Nat} {vs : List Value} {d : DataW H} {p : List MemPlace} (ht : P.underlying t = some (.slice e)) (h : DataW.trod enc P W 0 (fun _ => true) true fuel t v.cells.toList = some (d, p)) (h1 : Rd W sz v n vs) : n ≤ Rows.uptoBulk d := by
  obtain ⟨a, c, rfl, -⟩ := h1.form
  exact len_bulk ht h
/-- Rows that are read hold no more than the bulk. -/
theorem sum_row {t e q : TypeId} {k : IntKind} {fuel : Nat} {v : Value} {vs : List Value} {ls : List (List Int)} {d : DataW H} {p : List MemPlace} (ht : P.underlying t = some (.slice e)) (he : P.underlying e = some (.slice q)) (ce : P.cellsOf e = 1)
    (h : DataW.trod enc P W 0 (fun _ => true) true fuel t [v] = some (d, p)) (h1 : Rd W 1 v ls.length vs) (h3 : ∀ j, j < ls.length → RdI W k (vs.getD j undef) (ls.getD j [])) : (ls.map List.length).sum ≤ Rows.uptoBulk d := by
  obtain ⟨a1, c1, rfl, -, -, hc⟩ := h1.form
  rcases DataW.trod_slice ht h with ⟨e1, hx⟩ | ⟨a, len, cap, elems, rest, m, -, e1, hx, -, hl, hm, hel, hget, -⟩
  · simp only [List.cons.injEq, Value.slice.injEq, and_true] at e1
    have : ls = [] := List.eq_nil_of_length_eq_zero (by omega)
    subst this
    simp
  · simp only [Prod.mk.injEq] at hx
    obtain ⟨rfl, -⟩ := hx
    simp only [List.cons.injEq, Value.slice.injEq, and_true] at e1
    obtain ⟨rfl, hlen, -⟩ := e1
    have hs := sum_le (ls := ls) (ds := elems.map (·.1)) (by rw [List.length_map]; omega) fun j d hj => by
      have hjl : j < len := by
        have := (List.getElem?_eq_some_iff.1 hj).1
        rw [List.length_map] at this; omega
      have h5 := hget j hjl
      have hj2 : j < elems.length := by omega
      rw [List.getElem?_eq_getElem hj2] at h5
      obtain ⟨cs, e2, e3⟩ := Option.bind_eq_some_iff.1 h5
      rw [ce] at e2
      obtain ⟨-, hcl, hcc⟩ := World.cells?_some e2
      obtain ⟨x, rfl⟩ : ∃ x, cs = [x] := List.length_eq_one_iff.1 hcl
      obtain ⟨b, o, hb, hcell⟩ := hc (by omega)
      obtain rfl := Option.some.inj hb
      have hx := hcc 0 (by omega)
      have hy := hcell j (by omega)
      rw [show ((({ block := b, off := o, spot := none } : Addr).add (j * 1)).add 0) = ⟨b, o + j, none⟩ from by rw [Nat.mul_one, add_at, add_at, Nat.add_zero]] at hx
      have hxv : x = vs.getD j undef := by
        have : W.cell? ⟨b, o + j, none⟩ = some x := by simpa using hx
        rw [this] at hy
        exact Option.some.inj hy
      subst hxv
      obtain ⟨a2, c2, hv, -⟩ := (h3 j (by omega)).open
      rw [hv] at e3
      have hd : d = elems[j].1 := by
        rw [List.getElem?_map, List.getElem?_eq_getElem hj2] at hj
        exact (Option.some.inj hj).symm
      rw [hd]
      exact len_bulk he (d := elems[j].1) (p := elems[j].2) e3
    simp only [Rows.uptoBulk]
    omega
end
/-- The row of the second form; the walk is told the bulk too. -/
theorem law_lift_sum {H : Type} {enc : TypeId × Value → H} {a : Assume} {C : Checked} {os : Os} {f : FuncId} {fn : Func} {s : ChangeSpec} {conds : List PathCond} {tb : TypeId} {F : Stop.Interp} {M z : Nat} (ts : List TypeId) (hG : goodTypes C.prog M z = true) (h1 : 1 ≤ M) (hz : ts.all (fun t => decide (t < z)) = true)
    (own : ownKnob C.prog.godebug = none) (laid : laidOutB C.prog = true) (started : os.Started) (noInit : C.prog.inits.idxOf? f = none) (hfn : C.prog.funcs[f]? = some fn)
    (hpn : fn.params.toList = ts) (hres : fn.resultTypes = #[tb]) (htb : C.prog.underlying tb = some .bool) (hvars : s.vars = [])
    (hts : ts.all (fun t => C.prog.readableRec t && decide (t < C.prog.types.size)) = true)
    (hspec : ∀ ds : List (DataW H), ds.length = ts.length → s.fn H ds = { results := [.lit (.bool true)], args := ds })
    (witness : ∃ (w : World) (tape : Tape) (i : Input), w.os = os ∧ (w.forCall tape i).Shaped C.prog ∧ i.vars = [] ∧ Input.okWide C.prog (w.forCall tape i) .any w.heap.size f i ∧
      (Rows.OpenSpec.upto s).pre6 enc C.prog fn conds false (w.forCall tape i).memory i.args ∧ a.holds C.prog (lone (Frame.enter C.prog f i.args .normal) [] (w.forCall tape i)))
    (walk : ∀ (W : World) (args : Array Value), InsB (1048576 * M) enc C.prog W ts args.toList → (∃ ds p, DataW.TrodAll enc C.prog W 0 (fun _ => true) true ts args.toList ds p ∧ Rows.uptoBulkAll ds ≤ 1048576) → Ret C.prog f args W fun v W' => v = .bool true ∧ Below W.heap.size W W') :
    ReturnsInHanded a C os f .any ((Rows.OpenSpec.upto s).pre6 enc C.prog fn conds false) (((Rows.OpenSpec.upto s).at F).post enc C.prog fn false true false false) := by
  refine returnsInHanded_of_cond (s := Rows.OpenSpec.upto s) (k := Rows.uptoSmall) rfl own started noInit hfn witness ?_
  intro W base args ds gs before hval hW _ hk _
  have hbulk : ∃ ds p, DataW.TrodAll enc C.prog W 0 (fun _ => true) true ts args.toList ds p ∧ Rows.uptoBulkAll ds ≤ 1048576 := by
    obtain ⟨p, q, hA, hV, -⟩ := hW
    rw [show (Rows.OpenSpec.upto s).vars = [] from hvars] at hV
    obtain ⟨rfl, rfl⟩ : gs = [] ∧ q = [] := by cases gs <;> simp_all [DataW.TrodVars]
    have hk0 := hk
    rw [List.append_nil] at hk0
    exact ⟨ds, p, hpn ▸ hA, of_decide_eq_true hk0⟩
  exact Calls.mono (walk W args (law_insU hG h1 (fun t ht => by simpa using List.all_eq_true.1 hz t ht) hpn hvars hval hW hk) hbulk) fun e W' ⟨v, he, hv, hb⟩ => ⟨v, he, by subst hv; exact law_post laid hpn hres htb hvars hts hspec hW hb⟩
end Go.Proofs.Ytgoopiakpbcgoaa
