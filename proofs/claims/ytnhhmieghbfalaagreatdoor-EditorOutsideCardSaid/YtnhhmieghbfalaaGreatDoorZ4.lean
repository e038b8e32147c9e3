import Derived.Test.YtnhhmieghbfalaaGreatDoorZ3
import Derived.Laws.OwnMore
import Derived.Laws.CopyRow
import Derived.Laws.IdiomCopy
import Derived.Laws.ResultCell
import Derived.Laws.Rows
import Derived.Laws.IdiomStrings
import Derived.Test.YtnhhmieghbfalaaGreatDoorProg
set_option linter.unusedSimpArgs false
set_option linter.unusedVariables false
/- Texts of mine, joined, their names in short: More LitS Build Short2 Inf. -/
section
namespace Go.Proofs.YtnhhmieghbfalaaGreatDoor
open Go.RowKit
section
variable {P : Program} {N : Sh} {L : List (Nat × Value)} {w0 w : World} {F : HP} {ty : TypeId}
theorem Oj {fn : Func} {p g : Nat} {t ct : TypeId} {cs : Array Value} {fr : Nat × Nat} {d : TypeDesc} (hr : fn.results = #[.cell p t]) (hv : look L p = some (.pointer (some ⟨g, 0, none⟩)))
    (hu : P.underlying t = some d) (hd : (match d with | .struct _ | .array _ _ => true | _ => false) = true) (hi : (P.info? t).map (·.size) = some cs.size) (hg : w.heap[g]? = some (.cells cs ct fr)) : Res P fn N L w (.agg cs) := fun a ha =>
  results_cell_row (P := P) hr a.tmps w g ct cs fr d (by rw [Array.getD_eq_getD_getElem?, ha.at_ _ _ hv]; rfl) hg hu hd hi
theorem abq {fn : Func} {p u g : Nat} {t ct : TypeId} {x : Value} {cs : Array Value} {fr : Nat × Nat} {d : TypeDesc} (hr : fn.results = #[.cell p t, .tmp u]) (hv : look L p = some (.pointer (some ⟨g, 0, none⟩))) (hx : look L u = some x)
    (hu : P.underlying t = some d) (hd : (match d with | .struct _ | .array _ _ => true | _ => false) = true) (hi : (P.info? t).map (·.size) = some cs.size) (hg : w.heap[g]? = some (.cells cs ct fr)) : Res P fn N L w (.tuple #[.agg cs, x]) := fun a ha => by
  have h1 := results_cell_tmp hr a.tmps P w
  rw [Array.getD_eq_getD_getElem?, ha.at_ _ _ hv, Array.getD_eq_getD_getElem?, ha.at_ _ _ hx] at h1
  simp only [Option.getD_some, asAddr, Sem.run_pure, Result.andThen_ok, run_loadVar_row w g ct t cs fr d hg hu hd hi] at h1
  exact h1
theorem abr {fn : Func} {e : Exit} {S : Value → World → Prop} {p g : Nat} {t ct : TypeId} {cs : Array Value} {fr : Nat × Nat} {d : TypeDesc} (he : e = .ret ∨ e = .normal) (hr : fn.results = #[.cell p t]) (hv : look L p = some (.pointer (some ⟨g, 0, none⟩)))
    (hu : P.underlying t = some d) (hd : (match d with | .struct _ | .array _ _ => true | _ => false) = true) (hi : (P.info? t).map (·.size) = some cs.size) (hg : w.heap[g]? = some (.cells cs ct fr)) (h : S (.agg cs) w) (hds : N.ds = [] := by rfl) :
    WQ N (sU P fn S) e L w := wW he (Oj hr hv hu hd hi hg) h hds
theorem lM {fn : Func} {e : Exit} {S : Value → World → Prop} {p u g : Nat} {t ct : TypeId} {x : Value} {cs : Array Value} {fr : Nat × Nat} {d : TypeDesc} (he : e = .ret ∨ e = .normal) (hr : fn.results = #[.cell p t, .tmp u]) (hv : look L p = some (.pointer (some ⟨g, 0, none⟩))) (hx : look L u = some x)
    (hu : P.underlying t = some d) (hd : (match d with | .struct _ | .array _ _ => true | _ => false) = true) (hi : (P.info? t).map (·.size) = some cs.size) (hg : w.heap[g]? = some (.cells cs ct fr)) (h : S (.tuple #[.agg cs, x]) w) (hds : N.ds = [] := by rfl) :
    WQ N (sU P fn S) e L w := wW he (abq hr hv hx hu hd hi hg) h hds
def VQ : TypeDesc → Bool
  | .struct _ => true
  | .array _ _ => true
  | _ => false
theorem UW {t : TypeId} {d : TypeDesc} (h : P.underlying t = some d) (hd : VQ d = true) : xG P t = false := by
  unfold xG; rw [h]; cases d <;> simp_all [VQ]
theorem yj {t : TypeId} {d : TypeDesc} {b n : Nat} (o : Nat) {cs : Array Value} {xs : List Value} {et : TypeId} {fr : Nat × Nat} {x : Operand} (hu : P.underlying t = some d) (hd : VQ d = true) (hs : ∀ w, (sizeOf t).run P w = .ok n w)
    (hn : xs.length = n) (hx : ev L x = some (.pointer (some ⟨b, o, none⟩))) (hb : w.heap[b]? = some (.cells cs et fr)) (hxs : (cs.toList.drop o).take n = xs) : Val P L (.load t x) ty w (.agg xs.toArray) w :=
  Hz (by rw [hu]; rfl) (UW hu hd) hs hn hx (fun j u hj => iP hb (by
    rw [← hxs, List.getElem?_take] at hj
    split at hj
    · rw [List.getElem?_drop] at hj; simpa using hj
    · cases hj))
theorem iw {t : TypeId} {b : Nat} (o : Nat) {l l' : List Value} {et : TypeId} {u : Value} {x y : Operand} (H : V w0 w (gU b (.cells l.toArray et (0, 0)) • F)) (hs : ∀ w, (sizeOf t).run P w = .ok 1 w) (hx : ev L x = some (.pointer (some ⟨b, o, none⟩))) (hy : ev L y = some u) (h1 : u.oneCell' = true)
    (ho : Nat.ble (o + 1) l.length = true) (hl : l.set o u = l') : Dj P L (.store t x y) ty w fun _ w' => V w0 w' (gU b (.cells l'.toArray et (0, 0)) • F) := by
  subst hl
  refine (iQ H hs hx hy h1 (by have := Nat.le_of_ble_eq_true ho; simp; omega)).mono fun v w' H' => ?_
  simpa using H'
theorem dR {t : TypeId} {b n : Nat} (o : Nat) {l l' : List Value} {et : TypeId} {us : List Value} {x y : Operand} (H : V w0 w (gU b (.cells l.toArray et (0, 0)) • F)) (hs : ∀ w, (sizeOf t).run P w = .ok n w) (hx : ev L x = some (.pointer (some ⟨b, o, none⟩))) (hy : ev L y = some (.agg us.toArray)) (hn : us.length = n) (h1 : ∀ u ∈ us, u.oneCell' = true)
    (ho : Nat.ble (o + us.length) l.length = true) (hl : l.take o ++ us ++ l.drop (o + us.length) = l') : Dj P L (.store t x y) ty w fun _ w' => V w0 w' (gU b (.cells l'.toArray et (0, 0)) • F) := by
  subst hl
  subst hn
  have ho' := Nat.le_of_ble_eq_true ho
  have hst := run_storeCells_at P b o et us 0 l.toArray w H.get.2 (by simpa using ho') h1
  refine QM (w' := w.setRow b (l.take o ++ us ++ l.drop (o + us.length)).toArray) ?_ (H.turn rfl rfl rfl (by simp [World.setRow]) (setRow_heap _ _ _ _ _ _ H.get.2) fun k hk _ => setRow_other _ _ _ _ hk)
  intro ρ hρ d pos xw g
  simp at hst
  simp [execOp, hρ _ _ hx, hρ _ _ hy, Instr.storeAt, Instr.sureAddr, storeVar, hs, Value.cells, hst]
theorem iI {t : TypeId} {z : Value} {l : List Value} (H : V w0 w F) (hz : ∀ w, (zeroValue t).run P w = .ok z w) (hl : z.cells = l.toArray) : Dj P L (.alloc t) ty w fun v w' => ∃ b, v = .pointer (some ⟨b, 0, none⟩) ∧ V w0 w' (gU b (.cells l.toArray t (0, 0)) • F) := by
  have := Bc (L := L) (ty := ty) H hz
  rwa [hl] at this
theorem kZ {t : TypeId} {v : Value} {x : Operand} {l : List Value} (H : V w0 w F) (hx : ev L x = some v) (hl : v.cells = l.toArray) : Dj P L (.box t x) ty w fun u w' => ∃ b, u = .pointer (some ⟨b, 0, none⟩) ∧ V w0 w' (gU b (.cells l.toArray t (0, 0)) • F) := by
  have := UQ (P := P) (t := t) (ty := ty) H hx
  rwa [hl] at this
theorem jV {t e n : Nat} {k : IntKind} {ps : List (Nat × Operand)} {l : List Int} {z : Value} (H : V w0 w F) (ht : P.underlying t = some (.slice e)) (hs : ∀ w, (sizeOf e).run P w = .ok 1 w) (hz : ∀ w, (zeroValue e).run P w = .ok z w) (hz1 : z.cells.size = 1)
    (hp : evp L ps = some (placed 0 (l.map (Value.int k)))) (hn : l.length = n) (adu : n ≤ 16777216) :
    Dj P L (.buildSlice t n ps.toArray) ty w fun v w' => V w0 w' (kF e k v l • F) := by
  subst hn
  exact mX H ht hs hz hz1 hp (by simp) adu (QU _ _)
theorem mP.pos {k : IntKind} {a : Option Addr} {n c : Nat} {l : List Int} (h : mP w k (.slice a n c) l) (hp : 0 < l.length) : ∃ b o, a = some ⟨b, o, none⟩ := by
  obtain ⟨a', c', e, _, _, hh⟩ := h.open
  cases e
  obtain ⟨b, o, e, _⟩ := hh hp
  exact ⟨b, o, e⟩
theorem mP.Ib {k : IntKind} {b o n c : Nat} {l : List Int} {i : Int} (h : mP w k (.slice (some ⟨b, o, none⟩) n c) l) (hi : 0 ≤ i ∧ i < l.length) : w.cell? ⟨b, o + i.toNat * 1, none⟩ = some (.int k (l.getD i.toNat 0)) := by
  obtain ⟨a', c', e, _, _, hh⟩ := h.open
  cases e
  obtain ⟨b', o', e, hc⟩ := hh (by omega)
  cases e
  rw [Nat.mul_one]
  exact hc _ (by omega)
theorem mP.yc {k : IntKind} {b o n c i : Nat} {l : List Int} (h : mP w k (.slice (some ⟨b, o, none⟩) n c) l) (hi : i < l.length) : w.cell? ⟨b, o + (i : Int).toNat * 1, none⟩ = some (.int k (l.getD i 0)) := by
  have := h.Ib (i := i) (by omega)
  rwa [Int.toNat_natCast] at this ⊢
theorem V.Dk {e : TypeId} {k : IntKind} (h : V w0 w F) (a : Option Addr) : V w0 w (kF e k (.slice a 0 0) [] • F) := h.iV a
theorem mP.qX {k : IntKind} {v : Value} {l : List Int} (h : mP w k v l) (hp : 0 < l.length) : ∃ b o c, v = .slice (some ⟨b, o, none⟩) l.length c := by
  obtain ⟨a, c, rfl, _, _, hh⟩ := h.open
  obtain ⟨b, o, rfl, _⟩ := hh hp
  exact ⟨b, o, c, rfl⟩
theorem Rd.qX {sz n : Nat} {v : Value} {xs : List Value} (h : Rd w sz v n xs) (hp : 0 < n) : ∃ b o c, v = .slice (some ⟨b, o, none⟩) n c := by
  obtain ⟨_, a, c, rfl, _, _, hh⟩ := h
  obtain ⟨b, o, rfl, _⟩ := hh hp
  exact ⟨b, o, c, rfl⟩
theorem kT {t e : TypeId} {x : Operand} {v : Value} {k : IntKind} {l : List Int} (hr : mP w k v l) (ht : P.underlying t = some (.slice e)) (hx : ev L x = some v) {w1 : World} : Val P L (.call ⟨.builtin .len, #[x], #[t]⟩) ty w1 (.int .i64 l.length) w1 := by
  obtain ⟨a, c, rfl, _⟩ := hr.open
  exact kE ht hx
theorem fV {t e sz n : Nat} {x : Operand} {v : Value} {xs : List Value} (hr : Rd w sz v n xs) (ht : P.underlying t = some (.slice e)) (hx : ev L x = some v) {w1 : World} : Val P L (.call ⟨.builtin .len, #[x], #[t]⟩) ty w1 (.int .i64 n) w1 := by
  obtain ⟨_, a, c, rfl, _⟩ := hr
  exact kE ht hx
theorem rP {t e s n sz : Nat} {x : Operand} {lo hi : Option Operand} {v : Value} {xs : List Value} {l h : Int} (hr : Rd w sz v n xs) (ht : P.underlying t = some (.slice e)) (hs : ∀ w, (sizeOf e).run P w = .ok s w) (hx : ev L x = some v)
    (hl : (match lo with | none => some (Value.int .i64 0) | some o => ev L o) = some (.int .i64 l)) (hh : (match hi with | none => some (Value.int .i64 n) | some o => ev L o) = some (.int .i64 h)) (h0 : 0 ≤ l ∧ l ≤ h ∧ h ≤ n) {w1 : World} :
    Val P L (.slice t x lo hi none) ty w1 (xI s l.toNat h.toNat v) w1 := by
  obtain ⟨_, a, c, rfl, hc, _⟩ := hr
  exact zy ht hs hx hl hh (by omega)
theorem Rd.I8 {b o n c n' : Nat} {xs : List Value} (h : Rd w 1 (.slice (some ⟨b, o, none⟩) n c) n' xs) (hi : 0 < n') : w.cell? ⟨b, o + (0 : Int).toNat * 1, none⟩ = some (xs.getD 0 undef) := by
  obtain ⟨_, a', c', e, _, _, hh⟩ := h
  cases e
  obtain ⟨b', o', e, hc⟩ := hh (by omega)
  cases e
  exact hc 0 (by omega)
theorem mP.I8 {k : IntKind} {b o n c : Nat} {l : List Int} (h : mP w k (.slice (some ⟨b, o, none⟩) n c) l) (hi : 0 < l.length) : w.cell? ⟨b, o + (0 : Int).toNat * 1, none⟩ = some (.int k (l.getD 0 0)) := by
  obtain ⟨a', c', e, _, _, hh⟩ := h.open
  cases e
  obtain ⟨b', o', e, hc⟩ := hh hi
  cases e
  exact hc 0 hi
theorem Rd.pos {sz n c n' : Nat} {a : Option Addr} {xs : List Value} (h : Rd w sz (.slice a n c) n' xs) (hp : 0 < n') : ∃ b o, a = some ⟨b, o, none⟩ := by
  obtain ⟨_, a', c', e, _, _, hh⟩ := h
  cases e
  obtain ⟨b, o, e, _⟩ := hh hp
  exact ⟨b, o, e⟩
theorem Rd.yc {b o n c i n' : Nat} {xs : List Value} (h : Rd w 1 (.slice (some ⟨b, o, none⟩) n c) n' xs) (hi : i < n') : w.cell? ⟨b, o + (i : Int).toNat * 1, none⟩ = some (xs.getD i undef) := by
  obtain ⟨_, a', c', e, _, _, hh⟩ := h
  cases e
  obtain ⟨b', o', e, hc⟩ := hh (by omega)
  cases e
  rw [Nat.mul_one, Int.toNat_natCast]
  exact hc _ (by omega)
theorem Rd.Ib {b o n c n' : Nat} {i : Int} {xs : List Value} (h : Rd w 1 (.slice (some ⟨b, o, none⟩) n c) n' xs) (hi : 0 ≤ i ∧ i < n') : w.cell? ⟨b, o + i.toNat * 1, none⟩ = some (xs.getD i.toNat undef) := by
  have := h.yc (i := i.toNat) (by omega)
  rwa [Int.toNat_natCast] at this
theorem Rd.atS {b o n c i n' sz off : Nat} {xs : List Value} (h : Rd w sz (.slice (some ⟨b, o, none⟩) n c) n' xs) (hi : i < n') (ho : off < sz) : w.cell? ⟨b, o + (i : Int).toNat * sz + off, none⟩ = some (xs.getD (i * sz + off) undef) := by
  have hlt : i * sz + off < n' * sz := Nat.lt_of_lt_of_le (by omega : i * sz + off < i * sz + sz) (by rw [← Nat.succ_mul]; exact Nat.mul_le_mul_right _ hi)
  obtain ⟨_, a', c', e, _, _, hh⟩ := h
  cases e
  obtain ⟨b', o', e, hc⟩ := hh (by omega)
  cases e
  rw [Int.toNat_natCast, Nat.add_assoc]
  exact hc _ hlt
theorem XT {t e bytes : Nat} {k kl kc : IntKind} {x y : Operand} {n : Int} (H : V w0 w F) (ht : P.underlying t = some (.slice e)) (hi : (P.info? e).map (fun i => (i.zero, i.size, i.bytes)) = some (some (.int k 0), 1, bytes))
    (hx : ev L x = some (.int kl n)) (hy : ev L y = some (.int kc n)) (h0 : 0 ≤ n) (hb : n.toNat * bytes ≤ 281474976710656) (h63 : n ≤ 9223372036854775807) :
    Dj P L (.makeSlice t x y) ty w fun v w' => V w0 w' (kF e k v (List.replicate n.toNat 0) • F) := by
  obtain ⟨i, hi1, hi2⟩ := Option.map_eq_some_iff.1 hi
  simp only [Prod.mk.injEq] at hi2
  obtain ⟨hz1, hs1, hb1⟩ := hi2
  have hb' : (i.bytes : Int) * n ≤ 281474976710656 := by
    have h : ((i.bytes * n.toNat : Nat) : Int) ≤ 281474976710656 := by rw [hb1, Nat.mul_comm]; omega
    rw [Int.natCast_mul, Int.toNat_of_nonneg h0] at h
    exact h
  have hr := run_make (P := P) w t e i (.int k 0) ht hi1 hz1 kl kc n n h0 (Int.le_refl _) hb' h63
  refine BP (v := .slice (some ⟨w.heap.size, 0, none⟩) n.toNat n.toNat) (w' := w.alloc (.cells (madeCells (Value.int k 0).cells (n.toNat * i.size)) e)) ?_ ?_
  · intro ρ hρ d pos xw g
    simp only [execOp, hρ _ _ hx, hρ _ _ hy]
    simp [Sem.run_bind, hr]
  · refine (H.alloc _).Ia (o := 0) (c := n.toNat) (by simp) (by simp) (by simp) (by omega) (by simp [size_madeCells, hs1]) fun j hj => ?_
    have hj' : j < n.toNat := by simpa using hj
    rw [hs1, Nat.mul_one]
    simp [madeCells, Value.cells, hj', Nat.mod_one, List.getD_eq_getElem?_getD]
def lX {α : Type _} (l : List α) (i : Nat) (ys : List α) : List α := l.take i ++ ys ++ l.drop (i + ys.length)
theorem je {α : Type _} {l : List α} {i : Nat} {ys : List α} (h : i + ys.length ≤ l.length) : (lX l i ys).length = l.length := by simp [lX]; omega
theorem ZY (s n c : Nat) (a : Option Addr) : xI s 0 n (.slice a n c) = .slice a n c := by
  simp only [xI, LH, Nat.sub_zero, Nat.zero_mul]
  split
  · rfl
  · cases a <;> simp [Addr.add]
theorem Ju {t e ts : Nat} {k : IntKind} {x y : Operand} {v sv : Value} {l m : List Int} {i : Nat} (H : V w0 w (kF e k v l • F)) (hr : mP w k sv m) (ht : P.underlying t = some (.slice e)) (hs : (P.info? e).map (·.size) = some 1)
    (hx : ev L x = some (xI 1 i l.length v)) (hy : ev L y = some sv) (h : i + m.length ≤ l.length) :
    Dj P L (.call ⟨.builtin .copy, #[x, y], #[t, ts]⟩) ty w fun v' w' => v' = .int .i64 m.length ∧ V w0 w' (kF e k v (lX l i m) • F) := by
  have hlen := H.Ea
  by_cases h0 : m.length = 0
  · obtain rfl : m = [] := List.eq_nil_of_length_eq_zero h0
    obtain ⟨a, c, hv, _⟩ := (H.aJ).form
    subst hv
    obtain ⟨a2, c2, rfl, _⟩ := hr.open
    refine BP (v := .int .i64 0) (w' := w) (y7 (vs := [xI 1 i l.length (.slice a l.length c), .slice a2 0 c2]) (by simp [MG, hx, hy]) fun _ => ?_) ⟨rfl, by simpa [lX] using H⟩
    have := run_copy_none (P := P) w t ts ty e (LH a i c 1) a2 (l.length - i) (c - i) 0 c2 ht hs (by simp)
    simp only [builtin, Sem.run_bind]
    rw [show xI 1 i l.length (.slice a l.length c) = .slice (LH a i c 1) (l.length - i) (c - i) from rfl]
    simp only [List.length_nil] at *
    rw [this]
    rfl
  · rcases H.Bg with ⟨a, hv, hn, hxs, H1⟩ | ⟨g, o, c, cur, hv, h2, h3, h4, h5, H1⟩
    · omega
    subst hv
    obtain ⟨a2, c2, rfl, _, _, hc⟩ := hr.open
    obtain ⟨b, o2, rfl, hcell⟩ := hc (by omega)
    have hci : ¬ c = i := by omega
    have hd : xI 1 i l.length (.slice (some ⟨g, o, none⟩) l.length c) = .slice (some ⟨g, o + i, none⟩) (l.length - i) (c - i) := by simp [xI, LH, hci, Ci]
    rw [hd] at hx
    have hrun := run_copy_row (P := P) w t ts ty e g (o + i) (l.length - i) (c - i) ⟨b, o2, none⟩ m.length c2 cur e (m.map (Value.int k)) ht hs H1.get.2 (by rw [List.length_map]; exact (Nat.min_eq_left (by omega)).symm) (fun j u hj => by
      have hj' : j < m.length := by have := (List.getElem?_eq_some_iff.1 hj).1; simpa using this
      rw [Ci, hcell j hj']
      simp [hj'] at hj
      rw [← hj, List.getD_eq_getElem?_getD, List.getElem?_eq_getElem hj']; rfl) (by simp; omega) (QU _ _)
    refine BP (v := .int .i64 m.length) (w' := w.setRow g (cur.toList.take (o + i) ++ m.map (Value.int k) ++ cur.toList.drop (o + i + (m.map (Value.int k)).length)).toArray)
      (y7 (vs := [.slice (some ⟨g, o + i, none⟩) (l.length - i) (c - i), .slice (some ⟨b, o2, none⟩) m.length c2]) (by simp [MG, hx, hy]) fun _ => ?_) ⟨rfl, ?_⟩
    · simp only [builtin, Sem.run_bind]
      rw [hrun]
      simp [goInt]
    · have HT := H1.turn (w' := w.setRow g (cur.toList.take (o + i) ++ m.map (Value.int k) ++ cur.toList.drop (o + i + (m.map (Value.int k)).length)).toArray) (o' := .cells (cur.toList.take (o + i) ++ m.map (Value.int k) ++ cur.toList.drop (o + i + (m.map (Value.int k)).length)).toArray e (0, 0)) rfl rfl rfl (by simp [World.setRow]) (setRow_heap _ _ _ _ _ _ H1.get.2) fun k hk _ => setRow_other _ _ _ _ hk
      have hsp : (lX l i m).length = l.length := je h
      unfold kF
      rw [hsp]
      refine HT.Ia (by simp [hsp]) rfl h2 h3 (by simp; omega) fun j hj => ?_
      have hj' : j < l.length := by simpa using hj
      have h5' := h5 j hj
      simp only [List.getElem?_toArray, List.length_map]
      by_cases h6 : j < i
      · rw [List.append_assoc, List.getElem?_append_left (by simp; omega), List.getElem?_take_of_lt (by omega), Array.getElem?_toList, h5']
        simp only [List.getD_eq_getElem?_getD, List.getElem?_map]
        simp only [lX, List.append_assoc]
        rw [List.getElem?_append_left (by simp; omega), List.getElem?_take_of_lt h6]
      · by_cases h7 : j < i + m.length
        · rw [List.getElem?_append_left (by simp; omega), List.getElem?_append_right (by simp; omega)]
          simp only [List.getD_eq_getElem?_getD, List.getElem?_map, lX]
          rw [List.getElem?_append_left (by simp; omega), List.getElem?_append_right (by simp; omega)]
          simp only [List.length_take, Array.length_toList, show min (o + i) cur.size = o + i from by omega, show min i l.length = i from by omega, show o + j - (o + i) = j - i from by omega]
          rw [List.getElem?_eq_getElem (by omega)]
          rfl
        · rw [List.getElem?_append_right (by simp; omega), List.getElem?_drop]
          simp only [List.getD_eq_getElem?_getD, List.getElem?_map, lX]
          rw [List.getElem?_append_right (by simp; omega), List.getElem?_drop]
          simp only [List.length_append, List.length_map, List.length_take, Array.length_toList, show min (o + i) cur.size = o + i from by omega, show min i l.length = i from by omega]
          rw [show o + i + m.length + (o + j - (o + i + m.length)) = o + j from by omega, Array.getElem?_toList, h5', show i + m.length + (j - (i + m.length)) = j from by omega]
          simp [List.getD_eq_getElem?_getD]
end
section
variable {P : Program} {L : List (Nat × Value)} {w0 w : World} {F : HP} {ty : TypeId}
theorem Z4 (l : List Value) : ∀ (i : Nat) (cells : Array Value), cells.size = i + l.length → (l.zipIdx i).foldl (fun cs (x : Value × Nat) => cs.setIfInBounds (0 + x.2) x.1) cells = (cells.toList.take i ++ l).toArray := by
  induction l with
  | nil => intro i cells hs; simp [List.take_of_length_le (show cells.toList.length ≤ i by simp; simp at hs; omega)]
  | cons v r ih =>
    intro i cells hs
    rw [List.zipIdx_cons, List.foldl_cons]
    rw [ih (i + 1) _ (by simp at hs ⊢; omega)]
    congr 1
    have hi : i < cells.toList.length := by simp at hs ⊢; omega
    rw [Array.toList_setIfInBounds, Nat.zero_add, List.take_succ_eq_append_getElem (by simpa using hi), List.take_set_of_le (Nat.le_refl _)]
    simp
theorem qL {t e sz : Nat} {x : Operand} {cs : Array Value} {z : Value} (H : V w0 w F) (ht : P.underlying t = some (.slice e)) (hs : ∀ w, (sizeOf e).run P w = .ok sz w) (hz : ∀ w, (zeroValue e).run P w = .ok z w) (hz1 : z.cells.size = sz)
    (hx : ev L x = some (.agg cs)) (hn : cs.size = sz) (h0 : 0 < sz) (adu : sz ≤ 16777216) :
    Dj P L (.buildSlice t 1 #[(0, x)]) ty w fun v w' => V w0 w' (Row e sz v 1 cs.toList • F) := by
  refine BP (v := .slice (some ⟨w.heap.size, 0, none⟩) 1 1) (w' := w.alloc (.cells cs e)) ?_ ?_
  · intro ρ hρ d pos xw g
    simp only [execOp, Instr.buildSlice, Sem.run_bind, run_underlying ht, Result.andThen_ok, hs]
    rw [if_neg (by omega), if_neg (by omega)]
    have hf : ∀ q : Array Value, q.size = sz → Instr.fill (fun i => some (i * sz, sz)) q [(0, .agg cs)] = some cs := fun q hq => by
      simp only [Instr.fill, Value.cells, hn]
      rw [if_neg (by simp [hq])]
      have := Z4 cs.toList 0 q (by simp [hn, hq])
      simp only [Nat.zero_mul]
      rw [← Array.foldl_toList, Array.toList_zipIdx]
      simpa using this
    have hf1 := hf ((Array.range sz).map (z.cells[· % z.cells.size]!)) (by simp)
    simp [hz, hρ _ _ hx, hf1, newRow]
  · refine (H.alloc _).Ia (by simp [hn]) rfl (Nat.le_refl _) (by omega) (by simp [hn]) fun j hj => ?_
    rw [Nat.zero_add, List.getD_eq_getElem?_getD]
    have : j < cs.size := by omega
    simp [this]
theorem adv (l : List Value) : ∀ (o i : Nat) (cells : Array Value), o + i + l.length ≤ cells.size → (l.zipIdx i).foldl (fun cs (x : Value × Nat) => cs.setIfInBounds (o + x.2) x.1) cells = (cells.toList.take (o + i) ++ l ++ cells.toList.drop (o + i + l.length)).toArray := by
  induction l with
  | nil => intro o i cells hs; simp
  | cons v r ih =>
    intro o i cells hs
    rw [List.zipIdx_cons, List.foldl_cons]
    rw [ih o (i + 1) _ (by simp at hs ⊢; omega)]
    congr 1
    simp only [List.length_cons] at hs ⊢
    have hi : o + i < cells.toList.length := by rw [Array.length_toList]; omega
    rw [Array.toList_setIfInBounds, show o + (i + 1) = o + i + 1 from by omega, List.take_succ_eq_append_getElem (by simpa using hi), List.take_set_of_le (Nat.le_refl _), List.drop_set_of_lt (by omega)]
    simp
    omega
theorem MI {t e sz n n' : Nat} {x y : Operand} {b o c : Nat} {i : Int} (off : Nat) {xs : List Value} {u : Value} (H : V w0 w (Row e sz (.slice (some ⟨b, o, none⟩) n' c) n xs • F)) (hs : ∀ w, (sizeOf t).run P w = .ok 1 w)
    (hx : ev L x = some (.pointer (some ⟨b, o + i.toNat * sz + off, none⟩))) (hy : ev L y = some u) (h1 : u.oneCell' = true) (hi : i.toNat < n) (ho : off < sz) :
    Dj P L (.store t x y) ty w fun _ w' => V w0 w' (Row e sz (.slice (some ⟨b, o, none⟩) n' c) n (xs.set (i.toNat * sz + off) u) • F) := by
  have hlen := H.Ea
  rcases H.Bg with ⟨a, hv, hn, hxs, H1⟩ | ⟨g, o', c', cur, hv, h2, h3, h4, h5, H1⟩
  · omega
  cases hv
  have hlt : i.toNat * sz + off < n * sz := Nat.lt_of_lt_of_le (by omega : i.toNat * sz + off < i.toNat * sz + sz) (by rw [← Nat.succ_mul]; exact Nat.mul_le_mul_right _ hi)
  have hle : n * sz ≤ c * sz := Nat.mul_le_mul_right _ h2
  refine (iQ H1 hs hx hy h1 (by omega)).mono fun v w' H2 => ?_
  refine H2.Ia (o := o) (by simpa using hlen) rfl h2 h3 (by simp; omega) fun q hq => ?_
  rw [Array.getElem?_setIfInBounds]
  by_cases e1 : q = i.toNat * sz + off
  · subst e1
    rw [if_pos (by omega), if_pos (by omega)]
    simp [List.getD_eq_getElem?_getD, show i.toNat * sz + off < xs.length from by omega]
  · rw [if_neg (by omega), h5 q hq]
    simp only [List.getD_eq_getElem?_getD]
    rw [List.getElem?_set_ne (by omega)]
end
section
variable {w0 w : World} {F : HP}
end
inductive Cells : Nat → Nat → List (Nat × Nat) → List Value → List (Nat × Value) → List Value → Prop
  | nil {i o : Nat} : Cells i o [] [] [] []
  | one {i o : Nat} {pl : List (Nat × Nat)} {z : List Value} {vs : List (Nat × Value)} {cs : List Value} {v zv : Value} (h : v.oneCell' = true) (k : Cells (i + 1) (o + 1) pl z vs cs) : Cells i o ((o, 1) :: pl) (zv :: z) ((i, v) :: vs) (v :: cs)
  | agg {i o m : Nat} {pl : List (Nat × Nat)} {z : List Value} {vs : List (Nat × Value)} {cs us zs : List Value} (hm : us.length = m) (hz : zs.length = m) (k : Cells (i + 1) (o + m) pl z vs cs) : Cells i o ((o, m) :: pl) (zs ++ z) ((i, .agg us.toArray) :: vs) (us ++ cs)
  | zero {i o m : Nat} {pl : List (Nat × Nat)} {z : List Value} {vs : List (Nat × Value)} {cs zs : List Value} (hz : zs.length = m) (k : Cells (i + 1) (o + m) pl z vs cs) : Cells i o ((o, m) :: pl) (zs ++ z) vs (zs ++ cs)
theorem Z5 {v : Value} (h : v.oneCell' = true) : v.cells = #[v] := by cases v <;> simp_all [Value.cells, Value.oneCell']
theorem UY {pl : Array (Nat × Nat)} {i o m : Nat} {v : Value} {vs : List (Nat × Value)} {pre zs us z : List Value} {R : Option (Array Value)} (hp : pl[i]? = some (o, m)) (ho : pre.length = o) (hv : v.cells = us.toArray) (hm : us.length = m) (hz : zs.length = m)
    (h : Instr.fill (fun i => pl[i]?) (pre ++ us ++ z).toArray vs = R) : Instr.fill (fun i => pl[i]?) (pre ++ (zs ++ z)).toArray ((i, v) :: vs) = R := by
  simp only [Instr.fill]
  rw [hp]
  dsimp only
  rw [hv, if_neg (by simp; omega)]
  have hfr := adv us o 0 (pre ++ (zs ++ z)).toArray (by simp; omega)
  simp only [Nat.add_zero] at hfr
  rw [← Array.foldl_toList, Array.toList_zipIdx]
  simp only [List.toList_toArray] at hfr ⊢
  rw [show (us.zipIdx.foldl (fun cs (x : Value × Nat) => cs.setIfInBounds (o + x.2) x.1) (pre ++ (zs ++ z)).toArray) = _ from hfr]
  rw [← h]
  congr 2
  subst ho
  rw [List.take_left, ← List.append_assoc pre zs z, show pre.length + us.length = (pre ++ zs).length from by simp; omega, List.drop_left]
theorem Z7 {i o : Nat} {pl : List (Nat × Nat)} {z cs : List Value} {vs : List (Nat × Value)} (h : Cells i o pl z vs cs) : ∀ {pp : List (Nat × Nat)} {pre : List Value}, pp.length = i → pre.length = o →
    Instr.fill (fun j => (pp ++ pl).toArray[j]?) (pre ++ z).toArray vs = some (pre ++ cs).toArray := by
  induction h with
  | nil => intro pp pre _ _; rfl
  | @one i o pl z vs cs v zv h k ih =>
    intro pp pre h1 h2
    refine UY (zs := [zv]) (us := [v]) (o := o) (m := 1) (by simp [← h1]) h2 (Z5 h) rfl rfl ?_
    have := ih (pp := pp ++ [(o, 1)]) (pre := pre ++ [v]) (by simp; omega) (by simp; omega)
    simpa using this
  | @agg i o m pl z vs cs us zs hm hz k ih =>
    intro pp pre h1 h2
    refine UY (zs := zs) (us := us) (o := o) (m := m) (by simp [← h1]) h2 rfl hm hz ?_
    have := ih (pp := pp ++ [(o, m)]) (pre := pre ++ us) (by simp; omega) (by simp; omega)
    simpa using this
  | @zero i o m pl z vs cs zs hz k ih =>
    intro pp pre h1 h2
    have := ih (pp := pp ++ [(o, m)]) (pre := pre ++ zs) (by simp; omega) (by simp; omega)
    simpa using this
section
variable {P : Program} {L : List (Nat × Value)} {w : World} {ty : TypeId}
theorem iT {t : TypeId} {fs : Array Field} {z : Value} {zl : List Value} {pl : List (Nat × Nat)} {ps : List (Nat × Operand)} {vs : List (Nat × Value)} {cs : List Value} (cells : List Value) (ht : P.underlying t = some (.struct fs)) (hz : ∀ w, (zeroValue t).run P w = .ok z w) (hzl : z.cells = zl.toArray)
    (hpl : ∀ w, (fs.mapM fun f => do pure (f.offset, ← sizeOf f.type) : Sem (Array (Nat × Nat))).run P w = .ok pl.toArray w) (hp : evp L ps = some vs) (hC : Cells 0 0 pl zl vs cs) (hcs : cs = cells) : Val P L (.build t ps.toArray) ty w (.agg cells.toArray) w := by
  subst hcs
  exact kS cs.toArray ht hz hpl hp (by rw [hzl]; exact Z7 hC (pp := []) (pre := []) rfl rfl)
end
theorem O {α : Sort _} {a : α} : a = a := rfl
theorem aP {v : Value} {l : List Value} (k : ∀ u ∈ l, u.oneCell' = true) (h : v.oneCell' = true := by first | rfl | assumption) : ∀ u ∈ v :: l, u.oneCell' = true := bD h k
theorem Cells.on {i o : Nat} {pl : List (Nat × Nat)} {z : List Value} {vs : List (Nat × Value)} {cs : List Value} {v zv : Value} (k : Cells (i + 1) (o + 1) pl z vs cs) (h : v.oneCell' = true := by first | rfl | assumption) : Cells i o ((o, 1) :: pl) (zv :: z) ((i, v) :: vs) (v :: cs) := .one h k
section
variable {L : List (Nat × Value)} {M : List (Nat × Value)} {i j k l m n o p : Nat} {v v1 v2 v3 v4 v5 v6 v7 : Value}
theorem rJ (h : look L i = some v := by exact rfl) : Sub [(i, v)] L := .cons h (.nil _)
theorem vV (h : look L i = some v := by exact rfl) (h1 : look L j = some v1 := by exact rfl) : Sub [(i, v), (j, v1)] L := .cons h (rJ h1)
theorem DK (h : look L i = some v := by exact rfl) (h1 : look L j = some v1 := by exact rfl) (h2 : look L k = some v2 := by exact rfl) : Sub [(i, v), (j, v1), (k, v2)] L := .cons h (vV h1 h2)
theorem sb4 (h : look L i = some v := by exact rfl) (h1 : look L j = some v1 := by exact rfl) (h2 : look L k = some v2 := by exact rfl) (h3 : look L l = some v3 := by exact rfl) : Sub [(i, v), (j, v1), (k, v2), (l, v3)] L := .cons h (DK h1 h2 h3)
theorem sb5 (h : look L i = some v := by exact rfl) (h1 : look L j = some v1 := by exact rfl) (h2 : look L k = some v2 := by exact rfl) (h3 : look L l = some v3 := by exact rfl) (h4 : look L m = some v4 := by exact rfl) : Sub [(i, v), (j, v1), (k, v2), (l, v3), (m, v4)] L := .cons h (sb4 h1 h2 h3 h4)
theorem sb6 (h : look L i = some v := by exact rfl) (h1 : look L j = some v1 := by exact rfl) (h2 : look L k = some v2 := by exact rfl) (h3 : look L l = some v3 := by exact rfl) (h4 : look L m = some v4 := by exact rfl) (h5 : look L n = some v5 := by exact rfl) : Sub [(i, v), (j, v1), (k, v2), (l, v3), (m, v4), (n, v5)] L := .cons h (sb5 h1 h2 h3 h4 h5)
end
section
variable {P : Program} {N : Sh} {Q : Exit → Act → World → Prop} {L : List (Nat × Value)} {w w' : World} {ops : Array Oper} {rest : List Oper} {op : Op} {ty ty' : TypeId} {pos pos' : String} {xw aiZ : Array Edge} {d d' : Nat} {v v' : Value} {x y : Operand} {C D : Code} {id : Nat} {l : List Oper}
theorem iR (h : WC P N C Q L w) : WL P N ops (Exit.then (C.wpIn (fz N.ro) 0 P Q) Q) [] L w := dJ (aZ h)
theorem iU (hx : ev L x = some v) (h : WC P N C Q ((d, v) :: L) w) (hd : d < N.n := by exact iO rfl) : WL P N ops (Exit.then (C.wpIn (fz N.ro) 0 P Q) Q) [⟨some d, .assign x, ty, pos, xw, none⟩] L w := lg hx (iR h) hd
theorem kQ (h : WL P N l.toArray (Exit.then (C.wpIn (fz N.ro) 0 P Q) Q) l L w) (hd : N.ro = none ∨ vS l = true := by first | exact .inl rfl | exact .inr rfl) : WC P N (.seq (.region id l.toArray false) C) Q L w := aI (aF h hd)
theorem bT (hx : ev L x = some v) (h : WL P N (⟨some d, .move x, ty, pos, xw, none⟩ :: l).toArray (Exit.then (C.wpIn (fz N.ro) 0 P Q) Q) l ((d, v) :: L) w) (hd : N.ro = none ∨ vS (⟨some d, .move x, ty, pos, xw, none⟩ :: l) = true := by first | exact .inl rfl | exact .inr rfl) (hn : d < N.n := by exact iO rfl) :
    WC P N (.seq (.region id (⟨some d, .move x, ty, pos, xw, none⟩ :: l).toArray false) C) Q L w := kQ (cO hx h hn) hd
theorem kG (hx : ev L x = some v) (h : WC P N C Q ((d, v) :: L) w) (hd : N.ro = none ∨ vS [⟨some d, .assign x, ty, pos, xw, none⟩] = true := by first | exact .inl rfl | exact .inr rfl) (hn : d < N.n := by exact iO rfl) :
    WC P N (.seq (.region id [⟨some d, .assign x, ty, pos, xw, none⟩].toArray false) C) Q L w := kQ (iU hx h hn) hd
theorem iJ (hx : ev L x = some v) (h : WQ N Q .ret ((d, v) :: L) w) (hd : d < N.n := by exact iO rfl) : WL P N ops (Exit.then (Code.ret.wpIn (fz N.ro) 0 P Q) Q) [⟨some d, .assign x, ty, pos, xw, none⟩] L w := iU hx (kN h) hd
theorem zk7 (h : WL P N l.toArray (Exit.then (C.wpIn (fz N.ro) 0 P Q) Q) l L w) (hd : N.ro = none ∨ vS l = true := by first | exact .inl rfl | exact .inr rfl) :
    WL P N ops (Exit.then ((Code.seq (.region id l.toArray false) C).wpIn (fz N.ro) 0 P Q) Q) [] L w := iR (kQ h hd)
theorem qG (hx : ev L x = some v) (h : WL P N (⟨some d, .move x, ty, pos, xw, none⟩ :: l).toArray (Exit.then (C.wpIn (fz N.ro) 0 P Q) Q) l ((d, v) :: L) w) (hd : N.ro = none ∨ vS (⟨some d, .move x, ty, pos, xw, none⟩ :: l) = true := by first | exact .inl rfl | exact .inr rfl) (hn : d < N.n := by exact iO rfl) :
    WL P N ops (Exit.then ((Code.seq (.region id (⟨some d, .move x, ty, pos, xw, none⟩ :: l).toArray false) C).wpIn (fz N.ro) 0 P Q) Q) [] L w := iR (bT hx h hd hn)
theorem jE (hx : ev L x = some v) (h : WQ N Q .ret ((d, v) :: L) w) (hd : N.ro = none ∨ vS [⟨some d, .assign x, ty, pos, xw, none⟩] = true := by first | exact .inl rfl | exact .inr rfl) (hn : d < N.n := by exact iO rfl) :
    WC P N (.seq (.region id [⟨some d, .assign x, ty, pos, xw, none⟩].toArray false) .ret) Q L w := kG hx (kN h) hd hn
theorem gX (h : WC P N C Q L w) : WC P N .skip (Exit.then (C.wpIn (fz N.ro) 0 P Q) Q) L w := eG (aZ h)
theorem jo {b : Bool} (hx : ev L x = some (.bool b)) (ht : b = true → WC P N C Q L w) (hf : b = false → WC P N D Q L w) : WL P N ops (Exit.then ((Code.cond x C D).wpIn (fz N.ro) 0 P Q) Q) [] L w := iR (dw hx ht hf)
theorem zkc (h : WQ N Q .ret L w) : WL P N ops (Exit.then (Code.ret.wpIn (fz N.ro) 0 P Q) Q) [] L w := iR (kN h)
theorem uV (h : WC P N C (Exit.then (D.wpIn (fz N.ro) 0 P Q) Q) L w) : WL P N ops (Exit.then ((Code.seq C D).wpIn (fz N.ro) 0 P Q) Q) [] L w := iR (aI h)
theorem vI (hx : ev L x = some v) (h : WC P N C (Exit.then (D.wpIn (fz N.ro) 0 P Q) Q) ((d, v) :: L) w) (hd : d < N.n := by exact iO rfl) : WL P N ops (Exit.then ((Code.seq C D).wpIn (fz N.ro) 0 P Q) Q) [⟨some d, .assign x, ty, pos, xw, none⟩] L w := iU hx (aI h) hd
theorem ku (hx : ev L x = some v) (hy : ev ((d, v) :: L) y = some v') (h : WL P N ops Q rest ((d', v') :: (d, v) :: L) w) (hd : d < N.n := by exact iO rfl) (hd' : d' < N.n := by exact iO rfl) : WL P N ops Q (⟨some d, .move x, ty, pos, xw, none⟩ :: ⟨some d', .move y, ty', pos', aiZ, none⟩ :: rest) L w := cO hx (cO hy h hd') hd
theorem kY {a : Addr} (hx : ev L x = some v) (hy : ev ((d, v) :: L) y = some (.pointer (some a))) (h : WL P N ops Q rest ((d', .pointer (some a)) :: (d, v) :: L) w) (hd : d < N.n := by exact iO rfl) (hd' : d' < N.n := by exact iO rfl) : WL P N ops Q (⟨some d, .move x, ty, pos, xw, none⟩ :: ⟨some d', .nilCheck y, ty', pos', aiZ, none⟩ :: rest) L w := cO hx (dM hy h hd') hd
theorem wcA {b : Bool} (hx : ev L x = some (.bool b)) (ht : b = true → WC P N C Q L w) (hf : b = false → False := by intro h; (try simp only [aG] at h); first | contradiction | omega | (simp at h <;> omega)) : WC P N (.cond x C D) Q L w := dw hx ht fun h => (hf h).elim
theorem VR {b : Bool} (hx : ev L x = some (.bool b)) (hf : b = false → WC P N D Q L w) (ht : b = true → False := by intro h; (try simp only [aG] at h); first | contradiction | omega | (simp at h <;> omega)) : WC P N (.cond x C D) Q L w := dw hx (fun h => (ht h).elim) hf
theorem wcE {b : Bool} (hx : ev L x = some (.bool b)) (ht : b = true → WC P N C Q L w) (hf : b = false → False := by intro h; (try simp only [aG] at h); simp at h) : WC P N (.cond x C D) Q L w := dw hx ht fun h => (hf h).elim
theorem Kq {b : Bool} (hx : ev L x = some (.bool b)) (hf : b = false → WC P N D Q L w) (ht : b = true → False := by intro h; (try simp only [aG] at h); simp at h) : WC P N (.cond x C D) Q L w := dw hx (fun h => (ht h).elim) hf
theorem xsA {b : Bool} (hx : ev L x = some (.bool b)) (ht : b = true → WL P N ops Q rest ((d, .bool true) :: L) w) (hf : b = false → False := by intro h; (try simp only [aG] at h); first | contradiction | omega | (simp at h <;> omega)) (hd : d < N.n := by exact iO rfl) : WL P N ops Q (⟨some d, .move x, ty, pos, xw, none⟩ :: rest) L w := nS hx ht (fun h => (hf h).elim) hd
theorem xsB {b : Bool} (hx : ev L x = some (.bool b)) (hf : b = false → WL P N ops Q rest ((d, .bool false) :: L) w) (ht : b = true → False := by intro h; (try simp only [aG] at h); first | contradiction | omega | (simp at h <;> omega)) (hd : d < N.n := by exact iO rfl) : WL P N ops Q (⟨some d, .move x, ty, pos, xw, none⟩ :: rest) L w := nS hx (fun h => (ht h).elim) hf hd
theorem Z8 {b : Bool} (hx : ev L x = some (.bool b)) (ht : b = true → WL P N ops Q rest ((d, .bool true) :: L) w) (hf : b = false → False := by intro h; (try simp only [aG] at h); simp at h) (hd : d < N.n := by exact iO rfl) : WL P N ops Q (⟨some d, .move x, ty, pos, xw, none⟩ :: rest) L w := nS hx ht (fun h => (hf h).elim) hd
theorem QW {b : Bool} (hx : ev L x = some (.bool b)) (hf : b = false → WL P N ops Q rest ((d, .bool false) :: L) w) (ht : b = true → False := by intro h; (try simp only [aG] at h); simp at h) (hd : d < N.n := by exact iO rfl) : WL P N ops Q (⟨some d, .move x, ty, pos, xw, none⟩ :: rest) L w := nS hx (fun h => (ht h).elim) hf hd
end
section
variable {N : Sh} {L : List (Nat × Value)} {w : World} {P : Program} {fn : Func} {S : Value → World → Prop} {t u : Nat} {v x : Value}
theorem we0 (hr : fn.results = #[]) (h : S (.tuple #[]) w) (hd : N.ds = [] := by rfl) : WQ N (sU P fn S) .ret L w := nJ (.inl rfl) hr h hd
theorem dO (hr : fn.results = #[.tmp t]) (hv : look L t = some v) (h : S v w) (hd : N.ds = [] := by rfl) : WQ N (sU P fn S) .ret L w := afK (.inl rfl) hr hv h hd
theorem Fp (hr : fn.results = #[.tmp t, .tmp u]) (hv : look L t = some v) (hx : look L u = some x) (h : S (.tuple #[v, x]) w) (hd : N.ds = [] := by rfl) : WQ N (sU P fn S) .ret L w := afL (.inl rfl) hr hv hx h hd
end
section
variable {P : Program} {L : List (Nat × Value)} {w0 w : World} {F : HP} {ty : TypeId} {t : TypeId} {b : Nat} {l : List Value} {et : TypeId} {u : Value} {x y : Operand}
theorem st2 (o : Nat) {x0 x1 : Value} (H : V w0 w (gU b (.cells l.toArray et (0, 0)) • F)) (hs : ∀ w, (sizeOf t).run P w = .ok 1 w) (hx : ev L x = some (.pointer (some ⟨b, o, none⟩)) := by exact rfl) (hy : ev L y = some u := by exact rfl) (h1 : u.oneCell' = true := by first | rfl | assumption)
    (ho : Nat.ble (o + 1) l.length = true := by exact rfl) (hl : l.set o u = [x0, x1] := by exact rfl) : Dj P L (.store t x y) ty w fun _ w' => V w0 w' (gU b (.cells [x0, x1].toArray et (0, 0)) • F) := iw o H hs hx hy h1 ho hl
theorem st3 (o : Nat) {x0 x1 x2 : Value} (H : V w0 w (gU b (.cells l.toArray et (0, 0)) • F)) (hs : ∀ w, (sizeOf t).run P w = .ok 1 w) (hx : ev L x = some (.pointer (some ⟨b, o, none⟩)) := by exact rfl) (hy : ev L y = some u := by exact rfl) (h1 : u.oneCell' = true := by first | rfl | assumption)
    (ho : Nat.ble (o + 1) l.length = true := by exact rfl) (hl : l.set o u = [x0, x1, x2] := by exact rfl) : Dj P L (.store t x y) ty w fun _ w' => V w0 w' (gU b (.cells [x0, x1, x2].toArray et (0, 0)) • F) := iw o H hs hx hy h1 ho hl
theorem st5 (o : Nat) {x0 x1 x2 x3 x4 : Value} (H : V w0 w (gU b (.cells l.toArray et (0, 0)) • F)) (hs : ∀ w, (sizeOf t).run P w = .ok 1 w) (hx : ev L x = some (.pointer (some ⟨b, o, none⟩)) := by exact rfl) (hy : ev L y = some u := by exact rfl) (h1 : u.oneCell' = true := by first | rfl | assumption)
    (ho : Nat.ble (o + 1) l.length = true := by exact rfl) (hl : l.set o u = [x0, x1, x2, x3, x4] := by exact rfl) : Dj P L (.store t x y) ty w fun _ w' => V w0 w' (gU b (.cells [x0, x1, x2, x3, x4].toArray et (0, 0)) • F) := iw o H hs hx hy h1 ho hl
theorem afU (o : Nat) {x0 x1 x2 x3 x4 x5 x6 x7 x8 x9 x10 x11 x12 yJ x14 x15 x16 : Value} (H : V w0 w (gU b (.cells l.toArray et (0, 0)) • F)) (hs : ∀ w, (sizeOf t).run P w = .ok 1 w) (hx : ev L x = some (.pointer (some ⟨b, o, none⟩)) := by exact rfl) (hy : ev L y = some u := by exact rfl) (h1 : u.oneCell' = true := by first | rfl | assumption)
    (ho : Nat.ble (o + 1) l.length = true := by exact rfl) (hl : l.set o u = [x0, x1, x2, x3, x4, x5, x6, x7, x8, x9, x10, x11, x12, yJ, x14, x15, x16] := by exact rfl) : Dj P L (.store t x y) ty w fun _ w' => V w0 w' (gU b (.cells [x0, x1, x2, x3, x4, x5, x6, x7, x8, x9, x10, x11, x12, yJ, x14, x15, x16].toArray et (0, 0)) • F) := iw o H hs hx hy h1 ho hl
theorem ig (o : Nat) {x0 x1 x2 x3 x4 x5 x6 x7 x8 x9 x10 x11 x12 yJ x14 x15 x16 x17 x18 x19 x20 x21 yO x23 x24 x25 yS x27 x28 x29 x30 x31 x32 yZ : Value} (H : V w0 w (gU b (.cells l.toArray et (0, 0)) • F)) (hs : ∀ w, (sizeOf t).run P w = .ok 1 w) (hx : ev L x = some (.pointer (some ⟨b, o, none⟩)) := by exact rfl) (hy : ev L y = some u := by exact rfl) (h1 : u.oneCell' = true := by first | rfl | assumption)
    (ho : Nat.ble (o + 1) l.length = true := by exact rfl) (hl : l.set o u = [x0, x1, x2, x3, x4, x5, x6, x7, x8, x9, x10, x11, x12, yJ, x14, x15, x16, x17, x18, x19, x20, x21, yO, x23, x24, x25, yS, x27, x28, x29, x30, x31, x32, yZ] := by exact rfl) : Dj P L (.store t x y) ty w fun _ w' => V w0 w' (gU b (.cells [x0, x1, x2, x3, x4, x5, x6, x7, x8, x9, x10, x11, x12, yJ, x14, x15, x16, x17, x18, x19, x20, x21, yO, x23, x24, x25, yS, x27, x28, x29, x30, x31, x32, yZ].toArray et (0, 0)) • F) := iw o H hs hx hy h1 ho hl
theorem kU (o : Nat) {x0 x1 x2 x3 x4 x5 x6 x7 x8 x9 x10 x11 x12 yJ x14 x15 x16 x17 x18 x19 x20 x21 yO x23 x24 x25 yS x27 x28 x29 x30 x31 x32 yZ x34 Gn Gp Gq x38 x39 x40 x41 : Value} (H : V w0 w (gU b (.cells l.toArray et (0, 0)) • F)) (hs : ∀ w, (sizeOf t).run P w = .ok 1 w) (hx : ev L x = some (.pointer (some ⟨b, o, none⟩)) := by exact rfl) (hy : ev L y = some u := by exact rfl) (h1 : u.oneCell' = true := by first | rfl | assumption)
    (ho : Nat.ble (o + 1) l.length = true := by exact rfl) (hl : l.set o u = [x0, x1, x2, x3, x4, x5, x6, x7, x8, x9, x10, x11, x12, yJ, x14, x15, x16, x17, x18, x19, x20, x21, yO, x23, x24, x25, yS, x27, x28, x29, x30, x31, x32, yZ, x34, Gn, Gp, Gq, x38, x39, x40, x41] := by exact rfl) : Dj P L (.store t x y) ty w fun _ w' => V w0 w' (gU b (.cells [x0, x1, x2, x3, x4, x5, x6, x7, x8, x9, x10, x11, x12, yJ, x14, x15, x16, x17, x18, x19, x20, x21, yO, x23, x24, x25, yS, x27, x28, x29, x30, x31, x32, yZ, x34, Gn, Gp, Gq, x38, x39, x40, x41].toArray et (0, 0)) • F) := iw o H hs hx hy h1 ho hl
end
section
variable {P : Program} {f n : Nat} {fn : Func} {c : Code} {a b d e g h : Value} {S : Value → World → Prop} {w : World}
theorem ahs (hf : P.funcs[f]? = some fn) (hN : fn.ntmps = n) (k : WC P (Sh.of n) c (sU P fn S) [] w) (hb : fn.body = some c := by exact rfl) (hl : 0 ≤ n := by exact Nat.le_of_ble_eq_true rfl) : iK P f #[] w S := xqR hf hN k hb hl
theorem jl (hf : P.funcs[f]? = some fn) (hN : fn.ntmps = n) (k : WC P (Sh.of n) c (sU P fn S) [(0, a)] w) (hb : fn.body = some c := by exact rfl) (hl : 1 ≤ n := by exact Nat.le_of_ble_eq_true rfl) : iK P f #[a] w S := xqR hf hN k hb hl
theorem nO (hf : P.funcs[f]? = some fn) (hN : fn.ntmps = n) (k : WC P (Sh.of n) c (sU P fn S) [(0, a), (1, b)] w) (hb : fn.body = some c := by exact rfl) (hl : 2 ≤ n := by exact Nat.le_of_ble_eq_true rfl) : iK P f #[a, b] w S := xqR hf hN k hb hl
theorem FY (hf : P.funcs[f]? = some fn) (hN : fn.ntmps = n) (k : WC P (Sh.of n) c (sU P fn S) [(0, a), (1, b), (2, d)] w) (hb : fn.body = some c := by exact rfl) (hl : 3 ≤ n := by exact Nat.le_of_ble_eq_true rfl) : iK P f #[a, b, d] w S := xqR hf hN k hb hl
theorem MJ (hf : P.funcs[f]? = some fn) (hN : fn.ntmps = n) (k : WC P (Sh.of n) c (sU P fn S) [(0, a), (1, b), (2, d), (3, e)] w) (hb : fn.body = some c := by exact rfl) (hl : 4 ≤ n := by exact Nat.le_of_ble_eq_true rfl) : iK P f #[a, b, d, e] w S := xqR hf hN k hb hl
theorem amw (hf : P.funcs[f]? = some fn) (hN : fn.ntmps = n) (k : WC P (Sh.of n) c (sU P fn S) [(0, a), (1, b), (2, d), (3, e), (4, g)] w) (hb : fn.body = some c := by exact rfl) (hl : 5 ≤ n := by exact Nat.le_of_ble_eq_true rfl) : iK P f #[a, b, d, e, g] w S := xqR hf hN k hb hl
end
end Go.Proofs.YtnhhmieghbfalaaGreatDoor
end
section
namespace Go.Proofs.YtnhhmieghbfalaaGreatDoor
open Go.RowKit
open _root_.Go.Proofs.Tryz
theorem Ap : (prog.info? 143).map (fun i => (i.zero, i.size, i.bytes)) = some (some (.agg #[.int .i64 0, .slice none 0 0, .slice none 0 0]), 3, 56) := by kernel_rfl
theorem aeI : (prog.info? 147).map (fun i => (i.zero, i.size, i.bytes)) = some (some (.slice none 0 0), 1, 24) := by kernel_rfl
theorem Xq : (prog.info? 152).map (fun i => (i.zero, i.size, i.bytes)) = some (some (.agg #[.int .i64 0, .string .empty]), 2, 24) := by kernel_rfl
theorem V5 : (prog.info? 157).map (fun i => (i.zero, i.size, i.bytes)) = some (some (.agg #[.string .empty, .int .i64 0]), 2, 24) := by kernel_rfl
theorem aiC : (prog.info? 203).map (fun i => (i.zero, i.size, i.bytes)) = some (some (.agg #[.int .i64 0, .string .empty]), 2, 24) := by kernel_rfl
theorem O5 : (prog.info? 21).map (fun i => (i.zero, i.size, i.bytes)) = some (some (.int .i32 0), 1, 4) := by kernel_rfl
theorem Po : (prog.info? 24).map (fun i => (i.zero, i.size, i.bytes)) = some (some (.slice none 0 0), 1, 24) := by kernel_rfl
theorem ajG : (prog.info? 3).map (fun i => (i.zero, i.size, i.bytes)) = some (some (.int .i64 0), 1, 8) := by kernel_rfl
theorem NS : (prog.info? 5).map (fun i => (i.zero, i.size, i.bytes)) = some (some (.int .u8 0), 1, 1) := by kernel_rfl
theorem Pg : (prog.info? 56).map (fun i => (i.zero, i.size, i.bytes)) = some (some (.slice none 0 0), 1, 24) := by kernel_rfl
theorem adU : (prog.info? 9).map (fun i => (i.zero, i.size, i.bytes)) = some (some (.string .empty), 1, 16) := by kernel_rfl
theorem pq : (prog.info? 143).map (·.size) = some 3 := by kernel_rfl
theorem aa1 : (prog.info? 157).map (·.size) = some 2 := by kernel_rfl
theorem ajI : (prog.info? 55).map (·.size) = some 12 := by kernel_rfl
theorem U7 : (prog.info? 71).map (·.size) = some 3 := by kernel_rfl
theorem ae3 : (prog.info? 75).map (·.size) = some 17 := by kernel_rfl
theorem ajs : (prog.info? 82).map (·.size) = some 11 := by kernel_rfl
theorem qF : type_of% @func46 := @func46
theorem oz : type_of% @results137 := @results137
theorem o8 : type_of% @results150 := @results150
theorem tK : type_of% @results153 := @results153
theorem qR : type_of% @results180 := @results180
theorem wS : type_of% @results188 := @results188
theorem qP : type_of% @results195 := @results195
theorem mZ : type_of% @results199 := @results199
theorem ug : type_of% @results200 := @results200
theorem qx : type_of% @results203 := @results203
theorem uU : type_of% @results45 := @results45
theorem jy : type_of% @results9 := @results9
theorem pO : type_of% @sizeOf117 := @sizeOf117
theorem bM : type_of% @sizeOf143 := @sizeOf143
theorem jr : type_of% @sizeOf147 := @sizeOf147
theorem rH : type_of% @sizeOf152 := @sizeOf152
theorem ni : type_of% @sizeOf157 := @sizeOf157
theorem fD : type_of% @sizeOf175 := @sizeOf175
theorem nC : type_of% @sizeOf2 := @sizeOf2
theorem jU : type_of% @sizeOf21 := @sizeOf21
theorem lN : type_of% @sizeOf22 := @sizeOf22
theorem bI : type_of% @sizeOf24 := @sizeOf24
theorem ah : type_of% @sizeOf3 := @sizeOf3
theorem aN : type_of% @sizeOf4 := @sizeOf4
theorem kD : type_of% @sizeOf45 := @sizeOf45
theorem vP : type_of% @sizeOf46 := @sizeOf46
theorem lu : type_of% @sizeOf47 := @sizeOf47
theorem mJ : type_of% @sizeOf49 := @sizeOf49
theorem gZ : type_of% @sizeOf5 := @sizeOf5
theorem xX : type_of% @sizeOf53 := @sizeOf53
theorem bZ : type_of% @sizeOf55 := @sizeOf55
theorem bU : type_of% @sizeOf56 := @sizeOf56
theorem oV : type_of% @sizeOf71 := @sizeOf71
theorem gV : type_of% @sizeOf72 := @sizeOf72
theorem oI : type_of% @sizeOf75 := @sizeOf75
theorem kM : type_of% @sizeOf77 := @sizeOf77
theorem qc : type_of% @sizeOf79 := @sizeOf79
theorem aU : type_of% @sizeOf82 := @sizeOf82
theorem oM : type_of% @sizeOf9 := @sizeOf9
theorem dD : type_of% @underlying115 := @underlying115
theorem jR : type_of% @underlying117 := @underlying117
theorem jQ : type_of% @underlying119 := @underlying119
theorem qU : type_of% @underlying121 := @underlying121
theorem iF : type_of% @underlying123 := @underlying123
theorem aQ : type_of% @underlying143 := @underlying143
theorem bP : type_of% @underlying147 := @underlying147
theorem qV : type_of% @underlying152 := @underlying152
theorem kW : type_of% @underlying157 := @underlying157
theorem bG : type_of% @underlying161 := @underlying161
theorem jm : type_of% @underlying163 := @underlying163
theorem dV : type_of% @underlying166 := @underlying166
theorem bV : type_of% @underlying168 := @underlying168
theorem dI : type_of% @underlying175 := @underlying175
theorem dn : type_of% @underlying177 := @underlying177
theorem bH : type_of% @underlying188 := @underlying188
theorem nD : type_of% @underlying2 := @underlying2
theorem fO : type_of% @underlying21 := @underlying21
theorem dN : type_of% @underlying22 := @underlying22
theorem aB : type_of% @underlying24 := @underlying24
theorem dh : type_of% @underlying26 := @underlying26
theorem yP : type_of% @underlying27 := @underlying27
theorem ay : type_of% @underlying3 := @underlying3
theorem bn : type_of% @underlying4 := @underlying4
theorem oL : type_of% @underlying41 := @underlying41
theorem xu : type_of% @underlying44 := @underlying44
theorem jf : type_of% @underlying45 := @underlying45
theorem tZ : type_of% @underlying46 := @underlying46
theorem dW : type_of% @underlying47 := @underlying47
theorem dL : type_of% @underlying49 := @underlying49
theorem bY : type_of% @underlying5 := @underlying5
theorem mg : type_of% @underlying50 := @underlying50
theorem tY : type_of% @underlying51 := @underlying51
theorem pJ : type_of% @underlying53 := @underlying53
theorem bf : type_of% @underlying55 := @underlying55
theorem aV : type_of% @underlying56 := @underlying56
theorem aA : type_of% @underlying58 := @underlying58
theorem iM : type_of% @underlying71 := @underlying71
theorem bF : type_of% @underlying72 := @underlying72
theorem iy : type_of% @underlying73 := @underlying73
theorem aW : type_of% @underlying75 := @underlying75
theorem iL : type_of% @underlying77 := @underlying77
theorem xg : type_of% @underlying78 := @underlying78
theorem lZ : type_of% @underlying79 := @underlying79
theorem qO : type_of% @underlying80 := @underlying80
theorem aK : type_of% @underlying82 := @underlying82
theorem aj : type_of% @underlying85 := @underlying85
theorem iW : type_of% @underlying9 := @underlying9
theorem xk : type_of% @zeroValue123 := @zeroValue123
theorem cZ : type_of% @zeroValue143 := @zeroValue143
theorem uf : type_of% @zeroValue152 := @zeroValue152
theorem wY : type_of% @zeroValue157 := @zeroValue157
theorem pR : type_of% @zeroValue24 := @zeroValue24
theorem mG : type_of% @zeroValue5 := @zeroValue5
theorem sV : type_of% @zeroValue56 := @zeroValue56
theorem vZ : type_of% @zeroValue71 := @zeroValue71
theorem kL : type_of% @zeroValue75 := @zeroValue75
theorem sZ : type_of% @zeroValue82 := @zeroValue82
end Go.Proofs.YtnhhmieghbfalaaGreatDoor
end
