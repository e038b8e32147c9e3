/- A law's row of the second form: what comes in is of bounded bulk. -/
import Derived.Test.YtgoopiakpbcgoaaRows
import Derived.Test.YtgoopiakpbcgoaaOwn
import Derived.JoinedCond
import Derived.Deep.CondSized
set_option linter.unusedSimpArgs false
set_option linter.unusedVariables false
namespace Go.Proofs.Ytgoopiakpbcgoaa
open Go.ChangeShapes Go.WideShapes Go.ChangeAt Go.RowKit
section
variable {H : Type} {P : Program} {M : Nat}
theorem bulk_one (d : DataW H) : 1 ≤ Rows.uptoBulk d := by
  cases d with
  | lit l => cases l <;> simp [Rows.uptoBulk]
  | nil => simp [Rows.uptoBulk]
  | ptr d => simp [Rows.uptoBulk]
  | slice elems spare => simp [Rows.uptoBulk]
  | agg parts => simp [Rows.uptoBulk]
  | iface t d => simp [Rows.uptoBulk]
  | map entries => simp [Rows.uptoBulk]
  | held h => simp [Rows.uptoBulk]
theorem bulk_len (l : List (DataW H)) : l.length ≤ Rows.uptoBulkAll l := by
  induction l with
  | nil => simp [Rows.uptoBulkAll]
  | cons x r ih => have := bulk_one x; simp only [Rows.uptoBulkAll, List.length_cons]; omega
theorem bulk_entries (l : List (Lit × DataW H)) : l.length ≤ Rows.uptoBulkEntries l := by
  induction l with
  | nil => simp [Rows.uptoBulkEntries]
  | cons x r ih =>
    have : 1 ≤ Rows.uptoBulkEntry x := by
      obtain ⟨k, d⟩ := x
      cases k <;> simp [Rows.uptoBulkEntry]
    simp only [Rows.uptoBulkEntries, List.length_cons]; omega
/-- Types below n, whose parts are below n, none of which is larger than M. -/
def partsBelow (n : Nat) : Option TypeDesc → Bool
  | some (.pointer e) => decide (e < n)
  | some (.slice e) => decide (e < n)
  | some (.array _ e) => decide (e < n)
  | some (.struct fs) => fs.toList.all fun f => decide (f.type < n)
  | some (.map k e) => decide (k < n) && decide (e < n)
  | _ => true
def goodTypes (P : Program) (M n : Nat) : Bool := (List.range n).all fun t => decide (2 * P.bytesOf t ≤ M) && partsBelow n (P.underlying t)
theorem good_at {n : Nat} (hG : goodTypes P M n = true) {t : TypeId} (ht : t < n) : 2 * P.bytesOf t ≤ M ∧ partsBelow n (P.underlying t) = true := by
  have := List.all_eq_true.1 hG t (List.mem_range.2 ht)
  simpa using this
theorem mul_up {a b c : Nat} (h : a ≤ b) (hc : c ≤ M) : a * c ≤ b * M := Nat.mul_le_mul h hc
mutual
theorem weights_bulk {z : Nat} (hG : goodTypes P M z = true) (h1 : 1 ≤ M) : ∀ (d : DataW H) (t : TypeId) (n : Nat), t < z → n ∈ d.weights P t → n ≤ Rows.uptoBulk d * M
  | .lit l, t, n, ht, h => by
    cases l with
    | string b =>
      simp only [DataW.weights, List.mem_singleton] at h
      subst h
      simp only [Rows.uptoBulk]
      have := mul_up (M := M) (a := b.length) (b := b.length + 1) (c := 1) (by omega) h1
      omega
    | _ => simp [DataW.weights] at h
  | .nil, t, n, ht, h => by simp [DataW.weights] at h
  | .ptr d, t, n, ht, h => by
    simp only [DataW.weights] at h
    split at h
    · rename_i e he
      have hp := (good_at hG ht).2
      rw [he] at hp
      have := weights_bulk hG h1 d _ n (by simpa [partsBelow] using hp) h
      simp only [Rows.uptoBulk, Nat.add_mul]; omega
    · simp at h
  | .slice elems spare, t, n, ht, h => by
    simp only [DataW.weights] at h
    split at h
    · rename_i e he
      have hp := (good_at hG ht).2
      rw [he] at hp
      have he' : e < z := by simpa [partsBelow] using hp
      simp only [List.mem_cons, List.mem_append] at h
      simp only [Rows.uptoBulk, Nat.add_mul]
      rcases h with rfl | h | h
      · have l1 := bulk_len elems
        have l2 := bulk_len spare
        have := mul_up (M := M) (a := elems.length + spare.length) (b := Rows.uptoBulkAll elems + Rows.uptoBulkAll spare) (c := P.bytesOf e) (by omega) (by have := (good_at hG he').1; omega)
        rw [Nat.add_mul (Rows.uptoBulkAll elems)] at this
        omega
      · have := weightsAll_bulk hG h1 elems _ n he' h; omega
      · have := weightsAll_bulk hG h1 spare _ n he' h; omega
    · simp at h
  | .agg parts, t, n, ht, h => by
    simp only [DataW.weights] at h
    simp only [Rows.uptoBulk, Nat.add_mul]
    split at h
    · rename_i fs he
      have hp := (good_at hG ht).2
      rw [he] at hp
      have := weightsEach_bulk hG h1 parts _ n (fun t' ht' => by
        obtain ⟨f, hf, rfl⟩ := List.mem_map.1 ht'
        simpa using List.all_eq_true.1 hp f hf) h
      omega
    · rename_i k e he
      have hp := (good_at hG ht).2
      rw [he] at hp
      have := weightsAll_bulk hG h1 parts _ n (by simpa [partsBelow] using hp) h
      omega
    · simp at h
  | .iface t' d, t, n, ht, h => by simp [DataW.weights] at h
  | .map entries, t, n, ht, h => by
    simp only [DataW.weights] at h
    simp only [Rows.uptoBulk, Nat.add_mul]
    split at h
    · rename_i k e he
      have hp := (good_at hG ht).2
      rw [he] at hp
      have hke : k < z ∧ e < z := by simpa [partsBelow] using hp
      simp only [List.mem_cons] at h
      rcases h with rfl | h
      · have := mul_up (M := M) (bulk_entries entries) (c := P.bytesOf k + P.bytesOf e) (by have := (good_at hG hke.1).1; have := (good_at hG hke.2).1; omega); omega
      · have := weightsEntries_bulk hG h1 entries _ n hke.2 h; omega
    · simp at h
  | .held x, t, n, ht, h => by simp [DataW.weights] at h
theorem weightsAll_bulk {z : Nat} (hG : goodTypes P M z = true) (h1 : 1 ≤ M) : ∀ (l : List (DataW H)) (t : TypeId) (n : Nat), t < z → n ∈ DataW.weightsAll P t l → n ≤ Rows.uptoBulkAll l * M
  | [], t, n, ht, h => by simp [DataW.weightsAll] at h
  | d :: r, t, n, ht, h => by
    simp only [DataW.weightsAll, List.mem_append] at h
    simp only [Rows.uptoBulkAll, Nat.add_mul]
    rcases h with h | h
    · have := weights_bulk hG h1 d _ n ht h; omega
    · have := weightsAll_bulk hG h1 r _ n ht h; omega
theorem weightsEach_bulk {z : Nat} (hG : goodTypes P M z = true) (h1 : 1 ≤ M) : ∀ (l : List (DataW H)) (ts : List TypeId) (n : Nat), (∀ t ∈ ts, t < z) → n ∈ DataW.weightsEach P ts l → n ≤ Rows.uptoBulkAll l * M
  | [], ts, n, ht, h => by cases ts <;> simp [DataW.weightsEach] at h
  | d :: r, [], n, ht, h => by simp [DataW.weightsEach] at h
  | d :: r, t :: ts, n, ht, h => by
    simp only [DataW.weightsEach, List.mem_append] at h
    simp only [Rows.uptoBulkAll, Nat.add_mul]
    rcases h with h | h
    · have := weights_bulk hG h1 d _ n (ht t (by simp)) h; omega
    · have := weightsEach_bulk hG h1 r _ n (fun x hx => ht x (by simp [hx])) h; omega
theorem weightsEntries_bulk {z : Nat} (hG : goodTypes P M z = true) (h1 : 1 ≤ M) : ∀ (l : List (Lit × DataW H)) (t : TypeId) (n : Nat), t < z → n ∈ DataW.weightsEntries P t l → n ≤ Rows.uptoBulkEntries l * M
  | [], t, n, ht, h => by simp [DataW.weightsEntries] at h
  | (k, d) :: r, t, n, ht, h => by
    cases k with
    | string b =>
      simp only [DataW.weightsEntries, DataW.weightsEntry, List.mem_append, List.mem_cons] at h
      simp only [Rows.uptoBulkEntries, Rows.uptoBulkEntry, Nat.add_mul]
      have hb := mul_up (M := M) (a := b.length) (b := b.length) (c := 1) (by omega) h1
      rcases h with (h | h) | h
      · omega
      · have := weights_bulk hG h1 d _ n ht h; omega
      · have := weightsEntries_bulk hG h1 r _ n ht h; omega
    | _ =>
      simp only [DataW.weightsEntries, DataW.weightsEntry, List.mem_append] at h
      simp only [Rows.uptoBulkEntries, Rows.uptoBulkEntry, Nat.add_mul]
      rcases h with h | h
      · have := weights_bulk hG h1 d _ n ht h; omega
      · have := weightsEntries_bulk hG h1 r _ n ht h; omega
end
end
/-- What a law's call is handed, of bounded bulk. -/
theorem law_insU {H : Type} {enc : TypeId × Value → H} {P : Program} {fn : Func} {s : ChangeSpec} {ts : List TypeId} {M z : Nat} (hG : goodTypes P M z = true) (h1 : 1 ≤ M) (hz : ∀ t ∈ ts, t < z) (hpn : fn.params.toList = ts) (hvars : s.vars = []) {W : World} {base : Nat} {args : Array Value} {ds gs : List (DataW H)} {before : List MemPlace}
    (hval : ∀ (j : Nat) t v, fn.params[j]? = some t → args[j]? = some v → Value.okWide P W .any base t v) (hW : DataW.Whole enc P fn.params.toList s.vars false W args.toList ds gs before)
    (hk : Rows.uptoSmall H (ds ++ gs) = true) : InsB (1048576 * M) enc P W ts args.toList := by
  obtain ⟨p, q, hA, hV, rfl, hfz, hnd⟩ := hW
  rw [hvars] at hV
  obtain ⟨rfl, rfl⟩ : gs = [] ∧ q = [] := by cases gs <;> simp_all [DataW.TrodVars]
  rw [List.append_nil] at hk
  have hk1 : Rows.uptoBulkAll ds ≤ 1048576 := of_decide_eq_true hk
  have hw2 : ∀ n ∈ DataW.weightsEach P fn.params.toList ds, n ≤ 1048576 * M := fun n hn => by
    have h2 := weightsEach_bulk hG h1 ds _ n (by rw [hpn]; exact hz) hn
    have h3 := Nat.mul_le_mul_right M hk1
    omega
  obtain ⟨hn1, hn2, hin⟩ := trodAll_ins hA hw2
  rw [← hpn]
  exact InsB.mk hn1 fun j t v ht hv => ⟨⟨base, hval j t v (by simpa using ht) (by simpa using hv)⟩, hin j t v ht hv⟩
theorem law_lift_upto {H : Type} {enc : TypeId × Value → H} {a : Assume} {C : Checked} {os : Os} {f : FuncId} {fn : Func} {s : ChangeSpec} {conds : List PathCond} {tb : TypeId} {F : Stop.Interp} {M z : Nat} (ts : List TypeId) (hG : goodTypes C.prog M z = true) (h1 : 1 ≤ M) (hz : ts.all (fun t => decide (t < z)) = true)
    (own : ownKnob C.prog.godebug = none) (laid : laidOutB C.prog = true) (started : os.Started) (noInit : C.prog.inits.idxOf? f = none) (hfn : C.prog.funcs[f]? = some fn)
    (hpn : fn.params.toList = ts) (hres : fn.resultTypes = #[tb]) (htb : C.prog.underlying tb = some .bool) (hvars : s.vars = [])
    (hts : ts.all (fun t => C.prog.readableRec t && decide (t < C.prog.types.size)) = true)
    (hspec : ∀ ds : List (DataW H), ds.length = ts.length → s.fn H ds = { results := [.lit (.bool true)], args := ds })
    (witness : ∃ (w : World) (tape : Tape) (i : Input), w.os = os ∧ (w.forCall tape i).Shaped C.prog ∧ i.vars = [] ∧ Input.okWide C.prog (w.forCall tape i) .any w.heap.size f i ∧
      (Rows.OpenSpec.upto s).pre6 enc C.prog fn conds false (w.forCall tape i).memory i.args ∧ a.holds C.prog (lone (Frame.enter C.prog f i.args .normal) [] (w.forCall tape i)))
    (walk : ∀ (W : World) (args : Array Value), InsB (1048576 * M) enc C.prog W ts args.toList → Ret C.prog f args W fun v W' => v = .bool true ∧ Below W.heap.size W W') :
    ReturnsInHanded a C os f .any ((Rows.OpenSpec.upto s).pre6 enc C.prog fn conds false) (((Rows.OpenSpec.upto s).at F).post enc C.prog fn false true false false) := by
  refine returnsInHanded_of_cond (s := Rows.OpenSpec.upto s) (k := Rows.uptoSmall) rfl own started noInit hfn witness ?_
  intro W base args ds gs before hval hW _ hk _
  exact Calls.mono (walk W args (law_insU hG h1 (fun t ht => by simpa using List.all_eq_true.1 hz t ht) hpn hvars hval hW hk)) fun e W' ⟨v, he, hv, hb⟩ => ⟨v, he, by subst hv; exact law_post laid hpn hres htb hvars hts hspec hW hb⟩
end Go.Proofs.Ytgoopiakpbcgoaa
