import Derived.Test.YtddekefihgejoaaGreatDoorZ2
import Derived.Test.YtddekefihgejoaaGreatDoorZ3
import Derived.Laws.OwnMore
import Derived.Laws.CopyRow
import Derived.Laws.IdiomCopy
import Derived.Laws.ResultCell
import Derived.Laws.Rows
import Derived.Laws.IdiomStrings
import Derived.Test.YtddekefihgejoaaGreatDoorProg
import Derived.Lib.RuneBytes
import Derived.Laws.BitsLemmas
import GoSem.PinnedTables
set_option linter.unusedSimpArgs false
set_option linter.unusedVariables false
/- Texts of mine, joined, their names in short: More Fun Imm Tab UtfM Bits Utf. -/
section
namespace Go.Proofs.YtddekefihgejoaaGreatDoor
open Go.RowKit
section
variable {P : Program} {N : Sh} {L : List (Nat × Value)} {w0 w : World} {F : HP} {ty : TypeId}
theorem Fq {fn : Func} {p g : Nat} {t ct : TypeId} {cs : Array Value} {fr : Nat × Nat} {d : TypeDesc} (hr : fn.results = #[.cell p t]) (hv : look L p = some (.pointer (some ⟨g, 0, none⟩)))
    (hu : P.underlying t = some d) (hd : (match d with | .struct _ | .array _ _ => true | _ => false) = true) (hi : (P.info? t).map (·.size) = some cs.size) (hg : w.heap[g]? = some (.cells cs ct fr)) : Vj P fn N L w (.agg cs) := fun a ha =>
  results_cell_row (P := P) hr a.tmps w g ct cs fr d (by rw [Array.getD_eq_getD_getElem?, ha.at_ _ _ hv]; rfl) hg hu hd hi
theorem Ns {fn : Func} {p u g : Nat} {t ct : TypeId} {x : Value} {cs : Array Value} {fr : Nat × Nat} {d : TypeDesc} (hr : fn.results = #[.cell p t, .tmp u]) (hv : look L p = some (.pointer (some ⟨g, 0, none⟩))) (hx : look L u = some x)
    (hu : P.underlying t = some d) (hd : (match d with | .struct _ | .array _ _ => true | _ => false) = true) (hi : (P.info? t).map (·.size) = some cs.size) (hg : w.heap[g]? = some (.cells cs ct fr)) : Vj P fn N L w (.tuple #[.agg cs, x]) := fun a ha => by
  have h1 := results_cell_tmp hr a.tmps P w
  rw [Array.getD_eq_getD_getElem?, ha.at_ _ _ hv, Array.getD_eq_getD_getElem?, ha.at_ _ _ hx] at h1
  simp only [Option.getD_some, asAddr, Sem.run_pure, Result.andThen_ok, run_loadVar_row w g ct t cs fr d hg hu hd hi] at h1
  exact h1
theorem Ul {fn : Func} {e : Exit} {S : Value → World → Prop} {p g : Nat} {t ct : TypeId} {cs : Array Value} {fr : Nat × Nat} {d : TypeDesc} (he : e = .ret ∨ e = .normal) (hr : fn.results = #[.cell p t]) (hv : look L p = some (.pointer (some ⟨g, 0, none⟩)))
    (hu : P.underlying t = some d) (hd : (match d with | .struct _ | .array _ _ => true | _ => false) = true) (hi : (P.info? t).map (·.size) = some cs.size) (hg : w.heap[g]? = some (.cells cs ct fr)) (h : S (.agg cs) w) (hds : N.ds = [] := by rfl) :
    WQ N (pF P fn S) e L w := kM he (Fq hr hv hu hd hi hg) h hds
theorem fM {fn : Func} {e : Exit} {S : Value → World → Prop} {p u g : Nat} {t ct : TypeId} {x : Value} {cs : Array Value} {fr : Nat × Nat} {d : TypeDesc} (he : e = .ret ∨ e = .normal) (hr : fn.results = #[.cell p t, .tmp u]) (hv : look L p = some (.pointer (some ⟨g, 0, none⟩))) (hx : look L u = some x)
    (hu : P.underlying t = some d) (hd : (match d with | .struct _ | .array _ _ => true | _ => false) = true) (hi : (P.info? t).map (·.size) = some cs.size) (hg : w.heap[g]? = some (.cells cs ct fr)) (h : S (.tuple #[.agg cs, x]) w) (hds : N.ds = [] := by rfl) :
    WQ N (pF P fn S) e L w := kM he (Ns hr hv hx hu hd hi hg) h hds
def GZ : TypeDesc → Bool
  | .struct _ => true
  | .array _ _ => true
  | _ => false
theorem FX {t : TypeId} {d : TypeDesc} (h : P.underlying t = some d) (hd : GZ d = true) : jC P t = false := by
  unfold jC; rw [h]; cases d <;> simp_all [GZ]
theorem kY {t : TypeId} {d : TypeDesc} {b n : Nat} (o : Nat) {cs : Array Value} {xs : List Value} {et : TypeId} {fr : Nat × Nat} {x : Operand} (hu : P.underlying t = some d) (hd : GZ d = true) (hs : ∀ w, (sizeOf t).run P w = .ok n w)
    (hn : xs.length = n) (hx : ev L x = some (.pointer (some ⟨b, o, none⟩))) (hb : w.heap[b]? = some (.cells cs et fr)) (hxs : (cs.toList.drop o).take n = xs) : Val P L (.load t x) ty w (.agg xs.toArray) w :=
  vP (by rw [hu]; rfl) (FX hu hd) hs hn hx (fun j u hj => dH hb (by
    rw [← hxs, List.getElem?_take] at hj
    split at hj
    · rw [List.getElem?_drop] at hj; simpa using hj
    · cases hj))
theorem aS {t : TypeId} {b : Nat} (o : Nat) {l l' : List Value} {et : TypeId} {u : Value} {x y : Operand} (H : aA w0 w (cO b (.cells l.toArray et (0, 0)) • F)) (hs : ∀ w, (sizeOf t).run P w = .ok 1 w) (hx : ev L x = some (.pointer (some ⟨b, o, none⟩))) (hy : ev L y = some u) (h1 : u.oneCell' = true)
    (ho : Nat.ble (o + 1) l.length = true) (hl : l.set o u = l') : rU P L (.store t x y) ty w fun _ w' => aA w0 w' (cO b (.cells l'.toArray et (0, 0)) • F) := by
  subst hl
  refine (fH H hs hx hy h1 (by have := Nat.le_of_ble_eq_true ho; simp; omega)).mono fun v w' H' => ?_
  simpa using H'
theorem bC {t : TypeId} {b n : Nat} (o : Nat) {l l' : List Value} {et : TypeId} {us : List Value} {x y : Operand} (H : aA w0 w (cO b (.cells l.toArray et (0, 0)) • F)) (hs : ∀ w, (sizeOf t).run P w = .ok n w) (hx : ev L x = some (.pointer (some ⟨b, o, none⟩))) (hy : ev L y = some (.agg us.toArray)) (hn : us.length = n) (h1 : ∀ u ∈ us, u.oneCell' = true)
    (ho : Nat.ble (o + us.length) l.length = true) (hl : l.take o ++ us ++ l.drop (o + us.length) = l') : rU P L (.store t x y) ty w fun _ w' => aA w0 w' (cO b (.cells l'.toArray et (0, 0)) • F) := by
  subst hl
  subst hn
  have ho' := Nat.le_of_ble_eq_true ho
  have hst := run_storeCells_at P b o et us 0 l.toArray w H.get.2 (by simpa using ho') h1
  refine Dz (w' := w.setRow b (l.take o ++ us ++ l.drop (o + us.length)).toArray) ?_ (H.turn rfl rfl rfl (by simp [World.setRow]) (setRow_heap _ _ _ _ _ _ H.get.2) fun k hk _ => setRow_other _ _ _ _ hk)
  intro ρ hρ d pos lM g
  simp at hst
  simp [execOp, hρ _ _ hx, hρ _ _ hy, Instr.storeAt, Instr.sureAddr, storeVar, hs, Value.cells, hst]
theorem bW {t : TypeId} {z : Value} {l : List Value} (H : aA w0 w F) (hz : ∀ w, (zeroValue t).run P w = .ok z w) (hl : z.cells = l.toArray) : rU P L (.alloc t) ty w fun v w' => ∃ b, v = .pointer (some ⟨b, 0, none⟩) ∧ aA w0 w' (cO b (.cells l.toArray t (0, 0)) • F) := by
  have := vS (L := L) (ty := ty) H hz
  rwa [hl] at this
theorem ig {t : TypeId} {v : Value} {x : Operand} {l : List Value} (H : aA w0 w F) (hx : ev L x = some v) (hl : v.cells = l.toArray) : rU P L (.box t x) ty w fun u w' => ∃ b, u = .pointer (some ⟨b, 0, none⟩) ∧ aA w0 w' (cO b (.cells l.toArray t (0, 0)) • F) := by
  have := I9 (P := P) (t := t) (ty := ty) H hx
  rwa [hl] at this
theorem fV {t e n : Nat} {k : IntKind} {ps : List (Nat × Operand)} {l : List Int} {z : Value} (H : aA w0 w F) (ht : P.underlying t = some (.slice e)) (hs : ∀ w, (sizeOf e).run P w = .ok 1 w) (hz : ∀ w, (zeroValue e).run P w = .ok z w) (hz1 : z.cells.size = 1)
    (hp : TQ L ps = some (placed 0 (l.map (Value.int k)))) (hn : l.length = n) (OI : n ≤ 16777216) :
    rU P L (.buildSlice t n ps.toArray) ty w fun v w' => aA w0 w' (gW e k v l • F) := by
  subst hn
  exact jv H ht hs hz hz1 hp (by simp) OI (DK _ _)
theorem iI.pos {k : IntKind} {a : Option Addr} {n c : Nat} {l : List Int} (h : iI w k (.slice a n c) l) (hp : 0 < l.length) : ∃ b o, a = some ⟨b, o, none⟩ := by
  obtain ⟨a', c', e, _, _, hh⟩ := h.open
  cases e
  obtain ⟨b, o, e, _⟩ := hh hp
  exact ⟨b, o, e⟩
theorem iI.BH {k : IntKind} {b o n c : Nat} {l : List Int} {i : Int} (h : iI w k (.slice (some ⟨b, o, none⟩) n c) l) (hi : 0 ≤ i ∧ i < l.length) : w.cell? ⟨b, o + i.toNat * 1, none⟩ = some (.int k (l.getD i.toNat 0)) := by
  obtain ⟨a', c', e, _, _, hh⟩ := h.open
  cases e
  obtain ⟨b', o', e, hc⟩ := hh (by omega)
  cases e
  rw [Nat.mul_one]
  exact hc _ (by omega)
theorem iI.oV {k : IntKind} {b o n c i : Nat} {l : List Int} (h : iI w k (.slice (some ⟨b, o, none⟩) n c) l) (hi : i < l.length) : w.cell? ⟨b, o + (i : Int).toNat * 1, none⟩ = some (.int k (l.getD i 0)) := by
  have := h.BH (i := i) (by omega)
  rwa [Int.toNat_natCast] at this ⊢
theorem aA.zy {e : TypeId} {k : IntKind} (h : aA w0 w F) (a : Option Addr) : aA w0 w (gW e k (.slice a 0 0) [] • F) := h.iH a
theorem iI.kN {k : IntKind} {v : Value} {l : List Int} (h : iI w k v l) (hp : 0 < l.length) : ∃ b o c, v = .slice (some ⟨b, o, none⟩) l.length c := by
  obtain ⟨a, c, rfl, _, _, hh⟩ := h.open
  obtain ⟨b, o, rfl, _⟩ := hh hp
  exact ⟨b, o, c, rfl⟩
theorem Rd.kN {sz n : Nat} {v : Value} {xs : List Value} (h : Rd w sz v n xs) (hp : 0 < n) : ∃ b o c, v = .slice (some ⟨b, o, none⟩) n c := by
  obtain ⟨_, a, c, rfl, _, _, hh⟩ := h
  obtain ⟨b, o, rfl, _⟩ := hh hp
  exact ⟨b, o, c, rfl⟩
theorem gK {t e : TypeId} {x : Operand} {v : Value} {k : IntKind} {l : List Int} (hr : iI w k v l) (ht : P.underlying t = some (.slice e)) (hx : ev L x = some v) {w1 : World} : Val P L (.call ⟨.builtin .len, #[x], #[t]⟩) ty w1 (.int .i64 l.length) w1 := by
  obtain ⟨a, c, rfl, _⟩ := hr.open
  exact iU ht hx
theorem eY {t e sz n : Nat} {x : Operand} {v : Value} {xs : List Value} (hr : Rd w sz v n xs) (ht : P.underlying t = some (.slice e)) (hx : ev L x = some v) {w1 : World} : Val P L (.call ⟨.builtin .len, #[x], #[t]⟩) ty w1 (.int .i64 n) w1 := by
  obtain ⟨_, a, c, rfl, _⟩ := hr
  exact iU ht hx
theorem uH {t e s n sz : Nat} {x : Operand} {lo hi : Option Operand} {v : Value} {xs : List Value} {l h : Int} (hr : Rd w sz v n xs) (ht : P.underlying t = some (.slice e)) (hs : ∀ w, (sizeOf e).run P w = .ok s w) (hx : ev L x = some v)
    (hl : (match lo with | none => some (Value.int .i64 0) | some o => ev L o) = some (.int .i64 l)) (hh : (match hi with | none => some (Value.int .i64 n) | some o => ev L o) = some (.int .i64 h)) (h0 : 0 ≤ l ∧ l ≤ h ∧ h ≤ n) {w1 : World} :
    Val P L (.slice t x lo hi none) ty w1 (nV s l.toNat h.toNat v) w1 := by
  obtain ⟨_, a, c, rfl, hc, _⟩ := hr
  exact pG ht hs hx hl hh (by omega)
theorem Rd.CQ {b o n c n' : Nat} {xs : List Value} (h : Rd w 1 (.slice (some ⟨b, o, none⟩) n c) n' xs) (hi : 0 < n') : w.cell? ⟨b, o + (0 : Int).toNat * 1, none⟩ = some (xs.getD 0 undef) := by
  obtain ⟨_, a', c', e, _, _, hh⟩ := h
  cases e
  obtain ⟨b', o', e, hc⟩ := hh (by omega)
  cases e
  exact hc 0 (by omega)
theorem iI.CQ {k : IntKind} {b o n c : Nat} {l : List Int} (h : iI w k (.slice (some ⟨b, o, none⟩) n c) l) (hi : 0 < l.length) : w.cell? ⟨b, o + (0 : Int).toNat * 1, none⟩ = some (.int k (l.getD 0 0)) := by
  obtain ⟨a', c', e, _, _, hh⟩ := h.open
  cases e
  obtain ⟨b', o', e, hc⟩ := hh hi
  cases e
  exact hc 0 hi
theorem Rd.pos {sz n c n' : Nat} {a : Option Addr} {xs : List Value} (h : Rd w sz (.slice a n c) n' xs) (hp : 0 < n') : ∃ b o, a = some ⟨b, o, none⟩ := by
  obtain ⟨_, a', c', e, _, _, hh⟩ := h
  cases e
  obtain ⟨b, o, e, _⟩ := hh hp
  exact ⟨b, o, e⟩
theorem Rd.oV {b o n c i n' : Nat} {xs : List Value} (h : Rd w 1 (.slice (some ⟨b, o, none⟩) n c) n' xs) (hi : i < n') : w.cell? ⟨b, o + (i : Int).toNat * 1, none⟩ = some (xs.getD i undef) := by
  obtain ⟨_, a', c', e, _, _, hh⟩ := h
  cases e
  obtain ⟨b', o', e, hc⟩ := hh (by omega)
  cases e
  rw [Nat.mul_one, Int.toNat_natCast]
  exact hc _ (by omega)
theorem Rd.BH {b o n c n' : Nat} {i : Int} {xs : List Value} (h : Rd w 1 (.slice (some ⟨b, o, none⟩) n c) n' xs) (hi : 0 ≤ i ∧ i < n') : w.cell? ⟨b, o + i.toNat * 1, none⟩ = some (xs.getD i.toNat undef) := by
  have := h.oV (i := i.toNat) (by omega)
  rwa [Int.toNat_natCast] at this
theorem Rd.atS {b o n c i n' sz off : Nat} {xs : List Value} (h : Rd w sz (.slice (some ⟨b, o, none⟩) n c) n' xs) (hi : i < n') (ho : off < sz) : w.cell? ⟨b, o + (i : Int).toNat * sz + off, none⟩ = some (xs.getD (i * sz + off) undef) := by
  have hlt : i * sz + off < n' * sz := Nat.lt_of_lt_of_le (by omega : i * sz + off < i * sz + sz) (by rw [← Nat.succ_mul]; exact Nat.mul_le_mul_right _ hi)
  obtain ⟨_, a', c', e, _, _, hh⟩ := h
  cases e
  obtain ⟨b', o', e, hc⟩ := hh (by omega)
  cases e
  rw [Int.toNat_natCast, Nat.add_assoc]
  exact hc _ hlt
theorem Je {t e bytes : Nat} {k kl kc : IntKind} {x y : Operand} {n : Int} (H : aA w0 w F) (ht : P.underlying t = some (.slice e)) (hi : (P.info? e).map (fun i => (i.zero, i.size, i.bytes)) = some (some (.int k 0), 1, bytes))
    (hx : ev L x = some (.int kl n)) (hy : ev L y = some (.int kc n)) (h0 : 0 ≤ n) (hb : n.toNat * bytes ≤ 281474976710656) (h63 : n ≤ 9223372036854775807) :
    rU P L (.makeSlice t x y) ty w fun v w' => aA w0 w' (gW e k v (List.replicate n.toNat 0) • F) := by
  obtain ⟨i, hi1, hi2⟩ := Option.map_eq_some_iff.1 hi
  simp only [Prod.mk.injEq] at hi2
  obtain ⟨hz1, hs1, hb1⟩ := hi2
  have hb' : (i.bytes : Int) * n ≤ 281474976710656 := by
    have h : ((i.bytes * n.toNat : Nat) : Int) ≤ 281474976710656 := by rw [hb1, Nat.mul_comm]; omega
    rw [Int.natCast_mul, Int.toNat_of_nonneg h0] at h
    exact h
  have hr := run_make (P := P) w t e i (.int k 0) ht hi1 hz1 kl kc n n h0 (Int.le_refl _) hb' h63
  refine nR (v := .slice (some ⟨w.heap.size, 0, none⟩) n.toNat n.toNat) (w' := w.alloc (.cells (madeCells (Value.int k 0).cells (n.toNat * i.size)) e)) ?_ ?_
  · intro ρ hρ d pos lM g
    simp only [execOp, hρ _ _ hx, hρ _ _ hy]
    simp [Sem.run_bind, hr]
  · refine (H.alloc _).uf (o := 0) (c := n.toNat) (by simp) (by simp) (by simp) (by omega) (by simp [size_madeCells, hs1]) fun j hj => ?_
    have hj' : j < n.toNat := by simpa using hj
    rw [hs1, Nat.mul_one]
    simp [madeCells, Value.cells, hj', Nat.mod_one, List.getD_eq_getElem?_getD]
def dP {α : Type _} (l : List α) (i : Nat) (ys : List α) : List α := l.take i ++ ys ++ l.drop (i + ys.length)
theorem bP {α : Type _} {l : List α} {i : Nat} {ys : List α} (h : i + ys.length ≤ l.length) : (dP l i ys).length = l.length := by simp [dP]; omega
theorem LD (s n c : Nat) (a : Option Addr) : nV s 0 n (.slice a n c) = .slice a n c := by
  simp only [nV, AL, Nat.sub_zero, Nat.zero_mul]
  split
  · rfl
  · cases a <;> simp [Addr.add]
theorem xg {t e ts : Nat} {k : IntKind} {x y : Operand} {v sv : Value} {l m : List Int} {i : Nat} (H : aA w0 w (gW e k v l • F)) (hr : iI w k sv m) (ht : P.underlying t = some (.slice e)) (hs : (P.info? e).map (·.size) = some 1)
    (hx : ev L x = some (nV 1 i l.length v)) (hy : ev L y = some sv) (h : i + m.length ≤ l.length) :
    rU P L (.call ⟨.builtin .copy, #[x, y], #[t, ts]⟩) ty w fun v' w' => v' = .int .i64 m.length ∧ aA w0 w' (gW e k v (dP l i m) • F) := by
  have hlen := H.vU
  by_cases h0 : m.length = 0
  · obtain rfl : m = [] := List.eq_nil_of_length_eq_zero h0
    obtain ⟨a, c, hv, _⟩ := (H.aJ).form
    subst hv
    obtain ⟨a2, c2, rfl, _⟩ := hr.open
    refine nR (v := .int .i64 0) (w' := w) (kV (vs := [nV 1 i l.length (.slice a l.length c), .slice a2 0 c2]) (by simp [Ap, hx, hy]) fun _ => ?_) ⟨rfl, by simpa [dP] using H⟩
    have := run_copy_none (P := P) w t ts ty e (AL a i c 1) a2 (l.length - i) (c - i) 0 c2 ht hs (by simp)
    simp only [builtin, Sem.run_bind]
    rw [show nV 1 i l.length (.slice a l.length c) = .slice (AL a i c 1) (l.length - i) (c - i) from rfl]
    simp only [List.length_nil] at *
    rw [this]
    rfl
  · rcases H.rY with ⟨a, hv, hn, hxs, H1⟩ | ⟨g, o, c, cur, hv, h2, h3, h4, h5, H1⟩
    · omega
    subst hv
    obtain ⟨a2, c2, rfl, _, _, hc⟩ := hr.open
    obtain ⟨b, o2, rfl, hcell⟩ := hc (by omega)
    have hci : ¬ c = i := by omega
    have hd : nV 1 i l.length (.slice (some ⟨g, o, none⟩) l.length c) = .slice (some ⟨g, o + i, none⟩) (l.length - i) (c - i) := by simp [nV, AL, hci, qE]
    rw [hd] at hx
    have hrun := run_copy_row (P := P) w t ts ty e g (o + i) (l.length - i) (c - i) ⟨b, o2, none⟩ m.length c2 cur e (m.map (Value.int k)) ht hs H1.get.2 (by rw [List.length_map]; exact (Nat.min_eq_left (by omega)).symm) (fun j u hj => by
      have hj' : j < m.length := by have := (List.getElem?_eq_some_iff.1 hj).1; simpa using this
      rw [qE, hcell j hj']
      simp [hj'] at hj
      rw [← hj, List.getD_eq_getElem?_getD, List.getElem?_eq_getElem hj']; rfl) (by simp; omega) (DK _ _)
    refine nR (v := .int .i64 m.length) (w' := w.setRow g (cur.toList.take (o + i) ++ m.map (Value.int k) ++ cur.toList.drop (o + i + (m.map (Value.int k)).length)).toArray)
      (kV (vs := [.slice (some ⟨g, o + i, none⟩) (l.length - i) (c - i), .slice (some ⟨b, o2, none⟩) m.length c2]) (by simp [Ap, hx, hy]) fun _ => ?_) ⟨rfl, ?_⟩
    · simp only [builtin, Sem.run_bind]
      rw [hrun]
      simp [goInt]
    · have HT := H1.turn (w' := w.setRow g (cur.toList.take (o + i) ++ m.map (Value.int k) ++ cur.toList.drop (o + i + (m.map (Value.int k)).length)).toArray) (o' := .cells (cur.toList.take (o + i) ++ m.map (Value.int k) ++ cur.toList.drop (o + i + (m.map (Value.int k)).length)).toArray e (0, 0)) rfl rfl rfl (by simp [World.setRow]) (setRow_heap _ _ _ _ _ _ H1.get.2) fun k hk _ => setRow_other _ _ _ _ hk
      have hsp : (dP l i m).length = l.length := bP h
      unfold gW
      rw [hsp]
      refine HT.uf (by simp [hsp]) rfl h2 h3 (by simp; omega) fun j hj => ?_
      have hj' : j < l.length := by simpa using hj
      have h5' := h5 j hj
      simp only [List.getElem?_toArray, List.length_map]
      by_cases h6 : j < i
      · rw [List.append_assoc, List.getElem?_append_left (by simp; omega), List.getElem?_take_of_lt (by omega), Array.getElem?_toList, h5']
        simp only [List.getD_eq_getElem?_getD, List.getElem?_map]
        simp only [dP, List.append_assoc]
        rw [List.getElem?_append_left (by simp; omega), List.getElem?_take_of_lt h6]
      · by_cases h7 : j < i + m.length
        · rw [List.getElem?_append_left (by simp; omega), List.getElem?_append_right (by simp; omega)]
          simp only [List.getD_eq_getElem?_getD, List.getElem?_map, dP]
          rw [List.getElem?_append_left (by simp; omega), List.getElem?_append_right (by simp; omega)]
          simp only [List.length_take, Array.length_toList, show min (o + i) cur.size = o + i from by omega, show min i l.length = i from by omega, show o + j - (o + i) = j - i from by omega]
          rw [List.getElem?_eq_getElem (by omega)]
          rfl
        · rw [List.getElem?_append_right (by simp; omega), List.getElem?_drop]
          simp only [List.getD_eq_getElem?_getD, List.getElem?_map, dP]
          rw [List.getElem?_append_right (by simp; omega), List.getElem?_drop]
          simp only [List.length_append, List.length_map, List.length_take, Array.length_toList, show min (o + i) cur.size = o + i from by omega, show min i l.length = i from by omega]
          rw [show o + i + m.length + (o + j - (o + i + m.length)) = o + j from by omega, Array.getElem?_toList, h5', show i + m.length + (j - (i + m.length)) = j from by omega]
          simp [List.getD_eq_getElem?_getD]
end
end Go.Proofs.YtddekefihgejoaaGreatDoor
end
section
namespace Go.Proofs.YtddekefihgejoaaGreatDoor
open Go.RowKit
section
variable {P : Program} {L : List (Nat × Value)} {w0 w : World} {F : HP} {ty : TypeId}
def Vp (P : Program) (fv : Value) (vs : List Value) (w : World) (T : Value → World → Prop) : Prop :=
  ∃ f first cap fn c, fv = .func (.func f) (List.toArray first) (List.toArray cap) ∧ P.funcs[f]? = some fn ∧ (fn.name == "runtime.NumGoroutine") = false ∧ fn.body = some c ∧ fQ P f (first ++ vs ++ cap).toArray w T
def abR (P : Program) (w0 : World) (F : HP) (fv : Value) (g : Int → Bool) : Prop :=
  fv.oneCell' = true ∧ ∀ (G : HP) (W : World), aA w0 W (G • F) → ∀ r, Vp P fv [.int .i32 r] W fun v W' => v = .bool (g r) ∧ aA w0 W' (G • F)
end
end Go.Proofs.YtddekefihgejoaaGreatDoor
end
section
namespace Go.Proofs.YtddekefihgejoaaGreatDoor
open Go.RowKit
def yj (I : Hp) (k : IntKind) (v : Value) (l : List Int) : Prop := ∃ a c, v = .slice a l.length c ∧ l.length ≤ c ∧ (c : Int) ≤ 9223372036854775807 ∧
  (0 < l.length → ∃ b o cs e fr, a = some ⟨b, o, none⟩ ∧ I b = some (.cells cs e fr) ∧ ∀ j, j < l.length → cs[o + j]? = some (.int k (l.getD j 0)))
theorem yj.mono {I I' : Hp} {k : IntKind} {v : Value} {l : List Int} (hl : Hp.le I I') (h : yj I k v l) : yj I' k v l := by
  obtain ⟨a, c, h1, h2, h3, h4⟩ := h
  exact ⟨a, c, h1, h2, h3, fun hp => let ⟨b, o, cs, e, fr, e1, e2, e3⟩ := h4 hp; ⟨b, o, cs, e, fr, e1, hl _ _ e2, e3⟩⟩
def nY (k : IntKind) (v : Value) (l : List Int) : HP := know (fun I => yj I k v l) fun _ _ hl h => h.mono hl
theorem iI.mk {w : World} {k : IntKind} {v : Value} {l : List Int} {a : Option Addr} {c : Nat} (h1 : v = .slice a l.length c) (h2 : l.length ≤ c) (h3 : (c : Int) ≤ 9223372036854775807)
    (h4 : 0 < l.length → ∃ b o, a = some ⟨b, o, none⟩ ∧ ∀ j, j < l.length → w.cell? ⟨b, o + j, none⟩ = some (.int k (l.getD j 0))) : iI w k v l := by
  refine ⟨by simp, a, c, h1, h2, h3, fun hp => ?_⟩
  obtain ⟨b, o, e, hc⟩ := h4 hp
  refine ⟨b, o, e, fun j hj => ?_⟩
  rw [hc j (by omega)]
  simp [List.getD_eq_getElem?_getD, show j < l.length by omega]
theorem yj.rd {w : World} {n : Nat} {I : Hp} {k : IntKind} {v : Value} {l : List Int} (h : yj I k v l) (hI : ∀ k o, I k = some o → n ≤ k ∧ w.heap[k]? = some o) : iI w k v l := by
  obtain ⟨a, c, h1, h2, h3, h4⟩ := h
  exact iI.mk h1 h2 h3 fun hp => let ⟨b, o, cs, e, fr, e1, e2, e3⟩ := h4 hp; ⟨b, o, e1, fun j hj => dH (hI _ _ e2).2 (e3 j hj)⟩
section
variable {w0 w : World} {F : HP} {e : TypeId} {k : IntKind} {v : Value} {l : List Int}
theorem aA.jH (H : aA w0 w (nY k v l • F)) : iI w k v l := let ⟨I, h, hI⟩ := H.qU; h.rd hI
theorem pY {K K' : Hp → Prop} {hK : ∀ I I', Hp.le I I' → K I → K I'} {hK' : ∀ I I', Hp.le I I' → K' I → K' I'} (h : ∀ I, K I → K' I) (B : HP) : GN (know K hK • B) (know K' hK' • B) := fun I x ha =>
  (gJ K' hK' B I x).2 ⟨h I ((gJ K hK B I x).1 ha).1, ((gJ K hK B I x).1 ha).2⟩
theorem rZ {K K' M : Hp → Prop} {hK : ∀ I I', Hp.le I I' → K I → K I'} {hK' : ∀ I I', Hp.le I I' → K' I → K' I'} {hM : ∀ I I', Hp.le I I' → M I → M I'} (h : ∀ I, K I → K' I → M I) (B : HP) : GN (know K hK • know K' hK' • B) (know M hM • B) := fun I x ha => by
  have h1 := (gJ K hK _ I x).1 ha
  have h2 := (gJ K' hK' _ I x).1 h1.2
  exact (gJ M hM B I x).2 ⟨h I h1.1 h2.1, h2.2⟩
theorem aA.xR {K : Hp → Prop} {hK : ∀ I I', Hp.le I I' → K I → K I'} (h : ∀ I, K I) (H : aA w0 w F) : aA w0 w (know K hK • F) := H.Dh fun I x ha => (gJ K hK F I x).2 ⟨h I, ha⟩
theorem aA.jE (H : aA w0 w (gW e k v l • F)) : aA w0 w (nY k v l • F) := by
  rcases H.rY with ⟨a, rfl, h1, h2, H1⟩ | ⟨g, o, c, cur, rfl, h2, h3, h4, h5, H1⟩
  · have hl : l = [] := by simpa using h2
    subst hl
    exact H1.zo.Dh fun I x ha => (gJ _ _ F I x).2 ⟨⟨a, 0, rfl, by simp, by decide, fun h => by simp at h⟩, by rw [Go.Proofs.YtddekefihgejoaaGreatDoor.ji] at ha; exact ha⟩
  · refine H1.freeze.Dh (pY (fun I hI => ⟨_, c, rfl, h2, h3, fun _ => ⟨g, o, cur, e, (0, 0), rfl, hI, fun j hj => ?_⟩⟩) F)
    rw [h5 j (by omega)]
    simp [List.getD_eq_getElem?_getD, hj]
end
end Go.Proofs.YtddekefihgejoaaGreatDoor
end
section
namespace Go.Proofs.YtddekefihgejoaaGreatDoor
open Go.RowKit
open _root_.Go.Proofs.Tryz
def iK (r : Int) : Bool := decide (0 ≤ r ∧ r < 55296 ∨ 57343 < r ∧ r ≤ 1114111)
def Jf (r : Int) : Bool := decide (0 ≤ r ∧ r < 32 ∨ 127 ≤ r ∧ r ≤ 159)
def within (r : Int) (T : List (Int × Int)) : Bool := T.any fun x => decide (x.1 ≤ r ∧ r ≤ x.2)
def Vq : List (Int × Int) := [(768, 879), (1155, 1161), (1425, 1469), (1552, 1562), (1611, 1631), (3633, 3633), (3636, 3642), (3655, 3662), (6832, 6911), (7616, 7679), (8203, 8207), (8400, 8447), (12441, 12442), (65024, 65039), (65056, 65071)]
def Vr : List (Int × Int) := [(4352, 4447), (11904, 12350), (12353, 13311), (13312, 19903), (19968, 40959), (40960, 42191), (44032, 55203), (63744, 64255), (65072, 65135), (65280, 65376), (65504, 65510), (127744, 128591), (129280, 129535), (131072, 262141)]
def Qs (r : Int) : Int := if !iK r || Jf r || within r Vq then 0 else if within r Vr then 2 else 1
def Dk (r : Int) : Bool :=
  if r < 192 then decide (48 ≤ r ∧ r ≤ 57 ∨ 65 ≤ r ∧ r ≤ 90 ∨ 97 ≤ r ∧ r ≤ 122)
  else if r = 215 ∨ r = 247 ∨ r = 65533 ∨ 8192 ≤ r ∧ r ≤ 8303 ∨ 12288 ≤ r ∧ r ≤ 12351 ∨ 65280 ≤ r ∧ r ≤ 65295 then false
  else iK r && decide (0 < Qs r)
theorem aA.cell {w0 w : World} {F : HP} (H : aA w0 w F) {a : Addr} {v : Value} (h : w0.cell? a = some v) : w.cell? a = some v := (H.base.cell (World.block_lt_of_cell? _ _ h)).trans h
theorem OJ {w : World} {b o : Nat} {u v : Value} (h : w.cell? ⟨b, o, none⟩ = some u) (k : w.cell? ⟨b, o + 1, none⟩ = some v) : ∀ (j : Nat) x, ([u, v] : List Value)[j]? = some x → w.cell? ⟨b, o + j, none⟩ = some x := by
  intro j x hj
  match j, hj with
  | 0, hj => cases hj; exact h
  | 1, hj => cases hj; exact k
  | j + 2, hj => simp at hj
def Nu (T : List (Int × Int)) : List Value := T.flatMap fun x => [.int .i32 x.1, .int .i32 x.2]
structure acx (w : World) : Prop where
  abS : Rd w 2 (.slice (some ⟨0, 0, none⟩) 15 15) 15 (Nu Vq)
  abT : Rd w 2 (.slice (some ⟨1, 0, none⟩) 14 14) 14 (Nu Vr)
section
variable {w0 w : World} {F : HP} {r : Int}
theorem OL : fQ prog 179 #[.int .i32 r] w fun v w' => v = .bool (iK r) ∧ w = w' := by
 refine iw func179 ntmps179 ?_
 dsimp only [aZ, Nat.reduceAdd]
 refine ay (ah (aW rfl (aB (aj (ay (aY (ay (ah (aP rfl (aU (wO rfl rfl) (jL rfl (fun h1 => ?_) (fun h1 => ?_))))))))))))
 ·(try simp only [aG] at h1)
  try (exfalso; first | contradiction | omega)
  all_goals
   refine bn (aP rfl (bn (aU (dV rfl rfl) (jP rfl rfl (aW rfl (aB (aj (aO rfl (fun h2 => ?_) (fun h2 => ?_)))))))))
   ·(try simp only [aG] at h2)
    try (exfalso; first | contradiction | omega)
    all_goals
     refine ay (ah (aW rfl (aB (aj (aN (aX (aK (aT (.inl rfl) results179 rfl ?_))))))))
     refine ⟨?_, rfl⟩; congr 1; first | (symm; rw [iK, decide_eq_true_eq]; omega) | (symm; rw [iK, decide_eq_false_iff_not]; omega) | (rw [iK, decide_eq_decide]; omega)
   ·(try simp only [aG] at h2)
    try (exfalso; first | contradiction | omega)
    all_goals
     refine ay (ah (aP rfl (aU (dV rfl rfl) (jL rfl (fun h3 => ?_) (fun h3 => ?_)))))
     ·(try simp only [aG] at h3)
      try (exfalso; first | contradiction | omega)
      all_goals
       refine bn (aP rfl (bn (aU (wO rfl rfl) (jP rfl rfl (aW rfl (aB (aj (aO rfl (fun h4 => ?_) (fun h4 => ?_)))))))))
       ·(try simp only [aG] at h4)
        try (exfalso; first | contradiction | omega)
        all_goals
         refine ay (ah (aW rfl (aB (aj (aN (aX (aK (aT (.inl rfl) results179 rfl ?_))))))))
         refine ⟨?_, rfl⟩; congr 1; first | (symm; rw [iK, decide_eq_true_eq]; omega) | (symm; rw [iK, decide_eq_false_iff_not]; omega) | (rw [iK, decide_eq_decide]; omega)
       ·(try simp only [aG] at h4)
        try (exfalso; first | contradiction | omega)
        all_goals
         refine aQ (aH (aj (ay (ah (aW rfl (aB (aj (aN (aT (.inl rfl) results179 rfl ?_)))))))))
         refine ⟨?_, rfl⟩; congr 1; first | (symm; rw [iK, decide_eq_true_eq]; omega) | (symm; rw [iK, decide_eq_false_iff_not]; omega) | (rw [iK, decide_eq_decide]; omega)
     ·(try simp only [aG] at h3)
      try (exfalso; first | contradiction | omega)
      all_goals
       refine bK (bK (jd rfl rfl (aW rfl (aB (aj (pW (aQ (aH (aj (ay (ah (aW rfl (aB (aj (aN (aT (.inl rfl) results179 rfl ?_))))))))))))))))
       refine ⟨?_, rfl⟩; congr 1; first | (symm; rw [iK, decide_eq_true_eq]; omega) | (symm; rw [iK, decide_eq_false_iff_not]; omega) | (rw [iK, decide_eq_decide]; omega)
 ·(try simp only [aG] at h1)
  try (exfalso; first | contradiction | omega)
  all_goals
   refine bK (bK (jd rfl rfl (aW rfl (aB (aj (pW (ay (ah (aP rfl (aU (dV rfl rfl) (jL rfl (fun h5 => ?_) (fun h5 => ?_))))))))))))
   ·(try simp only [aG] at h5)
    try (exfalso; first | contradiction | omega)
    all_goals
     refine bn (aP rfl (bn (aU (wO rfl rfl) (jP rfl rfl (aW rfl (aB (aj (aO rfl (fun h6 => ?_) (fun h6 => ?_)))))))))
     ·(try simp only [aG] at h6)
      try (exfalso; first | contradiction | omega)
      all_goals
       refine ay (ah (aW rfl (aB (aj (aN (aX (aK (aT (.inl rfl) results179 rfl ?_))))))))
       refine ⟨?_, rfl⟩; congr 1; first | (symm; rw [iK, decide_eq_true_eq]; omega) | (symm; rw [iK, decide_eq_false_iff_not]; omega) | (rw [iK, decide_eq_decide]; omega)
     ·(try simp only [aG] at h6)
      try (exfalso; first | contradiction | omega)
      all_goals
       refine aQ (aH (aj (ay (ah (aW rfl (aB (aj (aN (aT (.inl rfl) results179 rfl ?_)))))))))
       refine ⟨?_, rfl⟩; congr 1; first | (symm; rw [iK, decide_eq_true_eq]; omega) | (symm; rw [iK, decide_eq_false_iff_not]; omega) | (rw [iK, decide_eq_decide]; omega)
   ·(try simp only [aG] at h5)
    try (exfalso; first | contradiction | omega)
    all_goals
     refine bK (bK (jd rfl rfl (aW rfl (aB (aj (pW (aQ (aH (aj (ay (ah (aW rfl (aB (aj (aN (aT (.inl rfl) results179 rfl ?_))))))))))))))))
     refine ⟨?_, rfl⟩; congr 1; first | (symm; rw [iK, decide_eq_true_eq]; omega) | (symm; rw [iK, decide_eq_false_iff_not]; omega) | (rw [iK, decide_eq_decide]; omega)
theorem V6 : fQ prog 169 #[.int .i32 r] w fun v w' => v = .bool (iK r) ∧ w = w' := by
 refine iw func169 ntmps169 ?_
 dsimp only [aZ, Nat.reduceAdd]
 refine ay (ah (aW rfl (aB (aj (ay (ah (aP rfl (dD rfl func179 (OL) ?_))))))))
 rintro _ _ ⟨rfl, rfl⟩
 refine aW rfl (aB (aj (aN (aT (.inl rfl) results169 rfl ?_))))
 exact ⟨rfl, rfl⟩
end
end Go.Proofs.YtddekefihgejoaaGreatDoor
end
section
namespace Go.Proofs.YtddekefihgejoaaGreatDoor
def jQ (x : Int) : Nat := if x < 128 then 1 else if 194 ≤ x ∧ x ≤ 223 then 2 else if 224 ≤ x ∧ x ≤ 239 then 3 else if 240 ≤ x ∧ x ≤ 244 then 4 else 0
def Jg (x : Int) : Int := if x = 224 then 160 else if x = 240 then 144 else 128
def BI (x : Int) : Int := if x = 237 then 159 else if x = 244 then 143 else 191
def yN (b : List Int) (j : Nat) : Bool := j == 0 || (decide (128 ≤ b.getD j 0 ∧ b.getD j 0 ≤ 191) && (j != 1 || decide (Jg (b.getD 0 0) ≤ b.getD 1 0 ∧ b.getD 1 0 ≤ BI (b.getD 0 0))))
def uI (b : List Int) : Nat → Bool
  | 0 => true
  | k + 1 => uI b k && yN b k
def kZ (b : List Int) : Nat × Nat := if b = [] then (0, 0) else if jQ (b.getD 0 0) = 0 then (0, 0) else if uI b (min (jQ (b.getD 0 0)) b.length) then (min (jQ (b.getD 0 0)) b.length, jQ (b.getD 0 0)) else (0, jQ (b.getD 0 0))
def XY (b : List Int) (n : Nat) : Int :=
  if n = 1 then b.getD 0 0 else if n = 2 then b.getD 0 0 % 32 * 64 + b.getD 1 0 % 64 else if n = 3 then b.getD 0 0 % 16 * 4096 + b.getD 1 0 % 64 * 64 + b.getD 2 0 % 64
  else b.getD 0 0 % 8 * 262144 + b.getD 1 0 % 64 * 4096 + b.getD 2 0 % 64 * 64 + b.getD 3 0 % 64
def yO (b : List Int) : Bool := decide ((kZ b).1 = (kZ b).2 ∧ 0 < (kZ b).2)
def oJ (b : List Int) : Int × Nat := if yO b then (XY b (kZ b).2, (kZ b).2) else (65533, 1)
def XZ (b : List Int) : Bool := decide (0 < (kZ b).1 ∧ (kZ b).1 < (kZ b).2)
def vW : Nat → List Int → List Int
  | 0, _ => []
  | f + 1, b => if b = [] then [] else (oJ b).1 :: vW f (b.drop (oJ b).2)
def su (b : List Int) : List Int := vW b.length b
def V7 : Nat → List Int → List Int × List Int
  | 0, b => ([], b)
  | f + 1, b => if b = [] ∨ XZ b = true then ([], b) else ((oJ b).1 :: (V7 f (b.drop (oJ b).2)).1, (V7 f (b.drop (oJ b).2)).2)
def acy (b : List Int) : List Int × List Int := V7 b.length b
def mJ (l : List Int) : List Int := l.flatMap Lib.encodeRuneZ
def Jh (b : List Int) : Prop := ∀ x ∈ b, 0 ≤ x ∧ x < 256
theorem Ji (x : Int) : jQ x ≤ 4 := by unfold jQ; repeat' split <;> try omega
theorem LG {b : List Int} {k m : Nat} (h : uI b k = true) (hm : m ≤ k) : uI b m = true := by
  induction k with
  | zero => obtain rfl : m = 0 := by omega
            exact h
  | succ k ih =>
    simp only [uI, Bool.and_eq_true] at h
    by_cases e : m = k + 1
    · subst e; simp only [uI, Bool.and_eq_true]; exact h
    · exact ih h.1 (by omega)
theorem FY {b : List Int} (hb : b ≠ []) : (kZ b).2 = jQ (b.getD 0 0) := by
  unfold kZ; rw [if_neg hb]; split
  · rename_i h; rw [h]
  · split <;> rfl
theorem zA {b : List Int} : (kZ b).1 ≤ b.length ∧ (kZ b).1 ≤ (kZ b).2 := by
  unfold kZ; split
  · exact ⟨Nat.zero_le _, Nat.le_refl _⟩
  · split
    · exact ⟨Nat.zero_le _, Nat.le_refl _⟩
    · split
      · exact ⟨Nat.min_le_right _ _, Nat.min_le_left _ _⟩
      · exact ⟨Nat.zero_le _, Nat.zero_le _⟩
theorem LH {b : List Int} (h : yO b = true) : 1 ≤ (kZ b).2 ∧ (kZ b).2 ≤ b.length ∧ (kZ b).2 ≤ 4 ∧ b ≠ [] := by
  unfold yO at h; simp only [decide_eq_true_eq] at h
  have h1 := zA (b := b)
  have hb : b ≠ [] := by rintro rfl; exact absurd h.2 (by decide)
  refine ⟨h.2, by omega, ?_, hb⟩
  rw [FY hb]; exact Ji _
theorem zB {b : List Int} (hb : b ≠ []) : 1 ≤ (oJ b).2 ∧ (oJ b).2 ≤ b.length ∧ (oJ b).2 ≤ 4 := by
  have := List.length_pos_iff.2 hb
  unfold oJ; split
  · rename_i h; have := LH h; exact ⟨this.1, this.2.1, this.2.2.1⟩
  · exact ⟨Nat.le_refl _, this, by decide⟩
theorem Jj : ∀ (f g : Nat) (b : List Int), b.length ≤ f → b.length ≤ g → vW f b = vW g b := by
  intro f
  induction f with
  | zero => intro g b h1 h2; obtain rfl : b = [] := List.eq_nil_of_length_eq_zero (by omega); cases g <;> simp [vW]
  | succ f ih =>
    intro g b h1 h2
    cases g with
    | zero => obtain rfl : b = [] := List.eq_nil_of_length_eq_zero (by omega); simp [vW]
    | succ g =>
      unfold vW
      by_cases hb : b = []
      · simp [hb]
      · rw [if_neg hb, if_neg hb]
        have := zB hb
        rw [ih g (b.drop (oJ b).2) (by simp; omega) (by simp; omega)]
theorem DT : su [] = [] := rfl
theorem BJ {b : List Int} (hb : b ≠ []) : su b = (oJ b).1 :: su (b.drop (oJ b).2) := by
  have h := zB hb
  have hl := List.length_pos_iff.2 hb
  unfold su
  obtain ⟨n, hn⟩ : ∃ n, b.length = n + 1 := ⟨b.length - 1, by omega⟩
  rw [hn, show vW (n + 1) b = if b = [] then [] else (oJ b).1 :: vW n (b.drop (oJ b).2) from rfl, if_neg hb, Jj n (b.drop (oJ b).2).length _ (by simp; omega) (Nat.le_refl _)]
theorem LJ (b : List Int) : (su b).length ≤ b.length := by
  induction hn : b.length using Nat.strongRecOn generalizing b with
  | _ n ih =>
    by_cases hb : b = []
    · subst hb; simp [DT]
    · have h := zB hb
      rw [BJ hb, List.length_cons]
      have := ih (b.drop (oJ b).2).length (by simp; omega) _ rfl
      simp at this
      omega
end Go.Proofs.YtddekefihgejoaaGreatDoor
end
section
namespace Go.Proofs.YtddekefihgejoaaGreatDoor
open Go.RowKit
section
variable {P : Program} {L : List (Nat × Value)} {w : World} {ty t t' : TypeId} {x y : Operand} {k k2 : IntKind} {m n : Int}
theorem Nv (o : BinOp) {r : Value} (ho : o = .shl ∨ o = .shr) (hx : ev L x = some (.int k m)) (hy : ev L y = some (.int k2 n)) (h : (Op.shift o k m k2 n).run P w = .ok r w) : Val P L (.binOp o t x y t') ty w r w := fun ρ hρ _ _ _ _ => by
  simp only [execOp, hρ _ _ hx, hρ _ _ hy]
  have h1 : (eqGuard o t x y (.int k m) (.int k2 n)).run P w = .ok () w := by rcases ho with rfl | rfl <;> rfl
  have h2 : (binOp o t (.int k m) (.int k2 n)).run P w = .ok r w := by
    rcases ho with rfl | rfl <;> simpa [binOp] using h
  simp [h1, h2]
theorem Qu (i : Nat) (hx : ev L x = some (.int k m)) (hy : ev L y = some (.int k2 (i : Int))) (hi : i ≤ k.bits) : Val P L (.binOp .shl t x y t') ty w (.int k (k.wrap (m * 2 ^ i))) w :=
  Nv .shl (.inl rfl) hx hy (by unfold Op.shift; rw [if_neg (by omega), show min (i : Int).toNat k.bits = i from by omega]; rfl)
theorem FZ (i : Nat) (c : Int) (hc : (2 : Int) ^ i = c) (hi : i ≤ k.bits) (hx : ev L x = some (.int k m)) (hy : ev L y = some (.int k2 (i : Int))) (hb : k.wrap (m * c) = m * c) : Val P L (.binOp .shl t x y t') ty w (.int k (m * c)) w := by
  have := Qu (P := P) (w := w) (ty := ty) (t := t) (t' := t') i hx hy hi
  rwa [hc, hb] at this
theorem Qv (i : Nat) (hx : ev L x = some (.int k m)) (hy : ev L y = some (.int k2 (i : Int))) (hi : i ≤ k.bits) : Val P L (.binOp .shr t x y t') ty w (.int k (m / 2 ^ i)) w :=
  Nv .shr (.inr rfl) hx hy (by unfold Op.shift; rw [if_neg (by omega), show min (i : Int).toNat k.bits = i from by omega]; show _ = _; rw [← Int.fdiv_eq_ediv_of_nonneg _ (by exact Int.le_of_lt (Int.pow_pos (by decide)))]; rfl)
theorem sD (i : Nat) (c : Int) (hc : (2 : Int) ^ i = c) (hi : i ≤ k.bits) (hx : ev L x = some (.int k m)) (hy : ev L y = some (.int k2 (i : Int))) : Val P L (.binOp .shr t x y t') ty w (.int k (m / c)) w := by
  have := Qv (P := P) (w := w) (ty := ty) (t := t) (t' := t') i hx hy hi
  rwa [hc] at this
theorem xU (o : BinOp) (hx : ev L x = some (.int k m)) (hy : ev L y = some (.int k n)) (ho : o = .and ∨ o = .or ∨ o = .xor ∨ o = .andNot) : Val P L (.binOp o t x y t') ty w (.int k (bits o k m n)) w :=
  V4 o hx hy ho (by rcases ho with rfl | rfl | rfl | rfl <;> rfl)
theorem fC (i : Nat) (c q : Int) (hc : (2 : Int) ^ i = q) (hq : q - 1 = c) (hi : i ≤ 8) (hx : ev L x = some (.int .u8 m)) (hy : ev L y = some (.int .u8 c)) (hm : 0 ≤ m ∧ m < 256) : Val P L (.binOp .and t x y t') ty w (.int .u8 (m % q)) w := by
  have := xU (P := P) (w := w) (ty := ty) (t := t) (t' := t') .and hx hy (.inl rfl)
  rwa [← hq, ← hc, bits_mask .u8 8 (by decide) wraps_u8 i hi m hm.1 hm.2, hc] at this
theorem iV (i : Nat) (q : Int) (hc : (2 : Int) ^ i = q) (hx : ev L x = some (.int .u8 m)) (hy : ev L y = some (.int .u8 n)) (h : 0 ≤ m ∧ m % q = 0 ∧ m < 256 ∧ 0 ≤ n ∧ n < q ∧ n < 256) : Val P L (.binOp .or t x y t') ty w (.int .u8 (m + n)) w := by
  have := xU (P := P) (w := w) (ty := ty) (t := t) (t' := t') .or hx hy (.inr (.inl rfl))
  obtain ⟨h1, h2, h3, h4, h5, h6⟩ := h
  rwa [bits_join .u8 8 (by decide) wraps_u8 i m n h1 (by rw [hc]; exact h2) h3 h4 (by rw [hc]; exact h5) h6] at this
theorem uJ (i : Nat) (q : Int) (hc : (2 : Int) ^ i = q) (hx : ev L x = some (.int .i32 m)) (hy : ev L y = some (.int .i32 n)) (h : 0 ≤ m ∧ m % q = 0 ∧ m < 2147483648 ∧ 0 ≤ n ∧ n < q ∧ n < 2147483648) : Val P L (.binOp .or t x y t') ty w (.int .i32 (m + n)) w := by
  have := xU (P := P) (w := w) (ty := ty) (t := t) (t' := t') .or hx hy (.inr (.inl rfl))
  obtain ⟨h1, h2, h3, h4, h5, h6⟩ := h
  rwa [bits_join .i32 31 (by decide) wraps_i32 i m n h1 (by rw [hc]; exact h2) h3 h4 (by rw [hc]; exact h5) h6] at this
theorem jk {n : Int} (h : -2147483648 ≤ n ∧ n < 2147483648) : IntKind.i32.wrap n = n := by rw [IntKind.wrap_i32]; omega
theorem Um {n : Int} (h : -9223372036854775808 ≤ n ∧ n < 9223372036854775808) : IntKind.i64.wrap n = n := by rw [IntKind.wrap_i64]; omega
theorem DU {src dst : TypeId} (hx : ev L x = some (.int k m)) (hs : (P.underlying src).isSome = true) (hd : P.underlying dst = some (.int .u32)) : Val P L (.convert src dst x) ty w (.int .u32 (m % 4294967296)) w := fun ρ hρ _ _ _ _ => by
  obtain ⟨ds, hs'⟩ := Option.isSome_iff_exists.1 hs
  simp only [execOp, hρ _ _ hx]
  simp [convert, run_underlying hs', run_underlying hd, Conv.intToInt, IntKind.wrap_u32]
theorem fA {src dst : TypeId} (hx : ev L x = some (.int k m)) (hs : (P.underlying src).isSome = true) (hd : P.underlying dst = some (.int .u8)) : Val P L (.convert src dst x) ty w (.int .u8 (m % 256)) w := fun ρ hρ _ _ _ _ => by
  obtain ⟨ds, hs'⟩ := Option.isSome_iff_exists.1 hs
  simp only [execOp, hρ _ _ hx]
  simp [convert, run_underlying hs', run_underlying hd, Conv.intToInt, IntKind.wrap_u8]
theorem iI.X0 (j : Nat) {b o n c : Nat} {l : List Int} (h : iI w k (.slice (some ⟨b, o, none⟩) n c) l) (hj : j < l.length) : w.cell? ⟨b, o + j * 1, none⟩ = some (.int k (l.getD j 0)) := by
  have := h.oV (i := j) hj
  rwa [Int.toNat_natCast] at this
end
end Go.Proofs.YtddekefihgejoaaGreatDoor
end
section
namespace Go.Proofs.YtddekefihgejoaaGreatDoor
open Go.RowKit
open _root_.Go.Proofs.Tryz
def firstM (x : Nat) : Int := ((Go.Pinned.utf8FirstZ.getD x 0 : Nat) : Int)
def OM : List (Int × Int) := [(128, 191), (160, 191), (128, 159), (144, 191), (128, 143)]
theorem OO : ((List.range 256).all fun x => let f := firstM x; let n := jQ (x : Int)
    decide ((f = 240 ∧ x < 128) ∨ (f = 241 ∧ n = 0 ∧ 128 ≤ x) ∨ (0 ≤ f ∧ f < 240 ∧ f % 8 = (n : Int) ∧ 2 ≤ n ∧ 128 ≤ x ∧ f / 16 < 5 ∧ OM.getD (f / 16).toNat (0, 0) = (Jg x, BI x)))) = true := by decide +kernel
theorem Qw {x : Int} (h : 0 ≤ x ∧ x < 256) : (firstM x.toNat = 240 ∧ x < 128) ∨ (firstM x.toNat = 241 ∧ jQ x = 0 ∧ 128 ≤ x) ∨
    (0 ≤ firstM x.toNat ∧ firstM x.toNat < 240 ∧ firstM x.toNat % 8 = (jQ x : Int) ∧ 2 ≤ jQ x ∧ 128 ≤ x ∧ firstM x.toNat / 16 < 5 ∧ OM.getD (firstM x.toNat / 16).toNat (0, 0) = (Jg x, BI x)) := by
  have := List.all_eq_true.1 OO x.toNat (List.mem_range.2 (by omega))
  simp only [decide_eq_true_eq, Int.toNat_of_nonneg h.1] at this
  rcases this with h1 | h1 | h1
  · exact .inl ⟨h1.1, by omega⟩
  · exact .inr (.inl ⟨h1.1, h1.2.1, by omega⟩)
  · exact .inr (.inr ⟨h1.1, h1.2.1, h1.2.2.1, h1.2.2.2.1, by omega, h1.2.2.2.2.2.1, h1.2.2.2.2.2.2⟩)
structure tu (w : World) : Prop where
  first : ∀ x : Nat, x < 256 → w.cell? ⟨0, x, none⟩ = some (.int .u8 (firstM x))
  acc : ∀ i : Nat, i < 5 → w.cell? ⟨1, i * 2, none⟩ = some (.int .u8 (OM.getD i (0, 0)).1) ∧ w.cell? ⟨1, i * 2 + 1, none⟩ = some (.int .u8 (OM.getD i (0, 0)).2)
theorem Qx : ((List.range 256).all fun x => decide (bits .or .i32 (bits .andNot .i32 (x : Int) (IntKind.i32.wrap (240 * 2 ^ 31) / 2 ^ 31)) (bits .and .i32 65533 (IntKind.i32.wrap (240 * 2 ^ 31) / 2 ^ 31)) = (x : Int) ∧
    bits .or .i32 (bits .andNot .i32 (x : Int) (IntKind.i32.wrap (241 * 2 ^ 31) / 2 ^ 31)) (bits .and .i32 65533 (IntKind.i32.wrap (241 * 2 ^ 31) / 2 ^ 31)) = 65533)) = true := by decide +kernel
theorem Qy {x : Int} (h : 0 ≤ x ∧ x < 256) : bits .or .i32 (bits .andNot .i32 x (IntKind.i32.wrap (240 * 2 ^ 31) / 2 ^ 31)) (bits .and .i32 65533 (IntKind.i32.wrap (240 * 2 ^ 31) / 2 ^ 31)) = x ∧
    bits .or .i32 (bits .andNot .i32 x (IntKind.i32.wrap (241 * 2 ^ 31) / 2 ^ 31)) (bits .and .i32 65533 (IntKind.i32.wrap (241 * 2 ^ 31) / 2 ^ 31)) = 65533 := by
  have := List.all_eq_true.1 Qx x.toNat (List.mem_range.2 (by omega))
  simpa only [decide_eq_true_eq, Int.toNat_of_nonneg h.1] using this
section
variable {b : List Int}
theorem DV (h : Jh b) (j : Nat) : 0 ≤ b.getD j 0 ∧ b.getD j 0 < 256 := by
  rw [List.getD_eq_getElem?_getD]
  by_cases hj : j < b.length
  · rw [List.getElem?_eq_getElem hj]; exact h _ (List.getElem_mem hj)
  · rw [List.getElem?_eq_none (by omega)]; decide
theorem OQ {j : Nat} (hj : j < jQ (b.getD 0 0)) (h : yN b j = false) (hl : j < b.length) : kZ b = (0, jQ (b.getD 0 0)) := by
  have hb : b ≠ [] := by rintro rfl; simp at hl
  unfold kZ
  rw [if_neg hb, if_neg (show ¬ jQ (b.getD 0 0) = 0 by omega), if_neg]
  intro hg
  have := LG hg (m := j + 1) (by omega)
  simp only [uI, h, Bool.and_false] at this
  cases this
theorem Qz (hb : b ≠ []) (hn : 0 < jQ (b.getD 0 0)) (h : uI b (min (jQ (b.getD 0 0)) b.length) = true) : kZ b = (min (jQ (b.getD 0 0)) b.length, jQ (b.getD 0 0)) := by
  unfold kZ
  rw [if_neg hb, if_neg (show ¬ jQ (b.getD 0 0) = 0 by omega), if_pos h]
theorem LK (h : jQ (b.getD 0 0) = 0) : kZ b = (0, 0) := by
  unfold kZ
  by_cases hb : b = []
  · rw [if_pos hb]
  · rw [if_neg hb, if_pos h]
theorem OT (h : jQ (b.getD 0 0) = 0) : oJ b = (65533, 1) := by
  unfold oJ yO; rw [LK h]; rfl
theorem sF {j : Nat} (hb : b ≠ []) (hj : j < jQ (b.getD 0 0)) (h : yN b j = false) : oJ b = (65533, 1) := by
  by_cases hl : j < b.length
  · unfold oJ yO; rw [OQ hj h hl]; rw [if_neg]; simp only [decide_eq_true_eq]; omega
  · unfold oJ yO
    have h1 := zA (b := b)
    rw [FY hb] at h1 ⊢
    rw [if_neg]
    simp only [decide_eq_true_eq]; omega
theorem QA {j : Nat} (h : b.length ≤ j) (hj : 0 < j) : yN b j = false := by
  unfold yN
  rw [List.getD_eq_getElem?_getD, List.getElem?_eq_none h]
  simp
  omega
theorem xW {n : Nat} (hb : b ≠ []) (hn : jQ (b.getD 0 0) = n) (h1 : 1 ≤ n) (hl : n ≤ b.length) (h : uI b n = true) : oJ b = (XY b n, n) := by
  have := Qz hb (by omega) (by rw [hn, Nat.min_eq_left hl]; exact h)
  rw [hn, Nat.min_eq_left hl] at this
  unfold oJ yO; rw [this]; rw [if_pos]; simp [show 0 < n from h1]
theorem DW (hb : b ≠ []) (h : b.getD 0 0 < 128) : oJ b = (b.getD 0 0, 1) := by
  have hl := List.length_pos_iff.2 hb
  rw [xW (n := 1) hb (by unfold jQ; rw [if_pos h]) (Nat.le_refl _) hl (by simp [uI, yN])]
  rfl
theorem ok1 (h1 : Jg (b.getD 0 0) ≤ b.getD 1 0) (h2 : b.getD 1 0 ≤ BI (b.getD 0 0)) : yN b 1 = true := by
  have : 128 ≤ b.getD 1 0 ∧ b.getD 1 0 ≤ 191 := by
    unfold Jg at h1; unfold BI at h2
    constructor
    · split at h1 <;> (try split at h1) <;> omega
    · split at h2 <;> (try split at h2) <;> omega
  unfold yN
  simp only [Bool.or_eq_true, Bool.and_eq_true, decide_eq_true_eq]
  exact .inr ⟨this, .inr ⟨h1, h2⟩⟩
theorem X3 (h : b.getD 1 0 < Jg (b.getD 0 0) ∨ BI (b.getD 0 0) < b.getD 1 0) : yN b 1 = false := by
  unfold yN
  rw [← Bool.not_eq_true]
  simp only [Bool.or_eq_true, Bool.and_eq_true, decide_eq_true_eq]
  rintro (h1 | ⟨h1, h2 | h2⟩)
  · simp at h1
  · simp at h2
  · omega
theorem okj {j : Nat} (hj : 2 ≤ j) (h : 128 ≤ b.getD j 0 ∧ b.getD j 0 ≤ 191) : yN b j = true := by
  unfold yN
  simp only [Bool.or_eq_true, Bool.and_eq_true, decide_eq_true_eq]
  exact .inr ⟨h, .inl (by simp; omega)⟩
theorem Un {j : Nat} (hj : 1 ≤ j) (h : b.getD j 0 < 128 ∨ 191 < b.getD j 0) : yN b j = false := by
  unfold yN
  rw [← Bool.not_eq_true]
  simp only [Bool.or_eq_true, Bool.and_eq_true, decide_eq_true_eq]
  rintro (h1 | ⟨h1, h2⟩)
  · simp at h1; omega
  · omega
theorem ok0 : yN b 0 = true := rfl
end
section
variable {w0 w : World} {F : HP} {v : Value} {b : List Int}
theorem QB (H : aA w0 w F) (hT : tu w0) (hv : gV w0 F .u8 v b) (hb : Jh b) (hne : b ≠ []) : fQ prog 152 #[v] w fun v' w' => v' = .tuple #[.int .i32 (oJ b).1, .int .i64 ((oJ b).2 : Nat)] ∧ aA w0 w' F := by
  have hl := List.length_pos_iff.2 hne
  have y0 := DV hb 0
  have y1 := DV hb 1
  have y2 := DV hb 2
  have y3 := DV hb 3
  have hf := Qw y0
  have hfb : 0 ≤ firstM (b.getD 0 0).toNat ∧ firstM (b.getD 0 0).toNat < 256 := by
    rcases hf with h1 | h1 | h1
    · omega
    · omega
    · exact ⟨h1.1, Int.lt_trans h1.2.1 (by decide)⟩
  have hn4 := Ji (b.getD 0 0)
  refine iw func152 ntmps152 ?_
  dsimp only [aZ, Nat.reduceAdd]
  refine ay (ah (aW rfl (aW rfl (aB (aj (ay (ah (aP rfl (aU (gK (hv _ (H)) underlying104 rfl) (aW rfl (aB (aj (ay (ay (ah (aP rfl (aU (dV rfl rfl) (aB (aj (aO rfl (fun h => by exfalso; (try simp only [aG] at h); first | contradiction | omega | (simp at h <;> omega)) (fun h1 => ?_)))))))))))))))))))))
  (try simp only [aG] at h1)
  refine aQ (aj (ay (ah (aP rfl ?_))))
  obtain ⟨bv, ov, cv, ev⟩ := iI.kN (hv _ (H)) (by omega)
  cases ev
  refine aU (bV underlying104 sizeOf5 rfl rfl (by omega)) (aU (dB (bG underlying5 rfl) rfl (iI.X0 0 (hv _ (H)) (by omega))) (aW rfl (aB (aj (ay (ah (aP rfl (aU (wX underlying245 sizeOf5 rfl rfl (by omega)) ?_))))))))
  refine aU (dB (bG underlying5 rfl) rfl (by rw [show 0 + (b.getD 0 0).toNat * 1 = (b.getD 0 0).toNat from by omega]; exact H.cell (hT.first _ (by omega)))) ?_
  refine aW rfl (aB (aj (ay (ay (ah (aP rfl (aU (wW rfl rfl) (aB (aj (aO rfl (fun h2 => ?_) (fun h2 => ?_)))))))))))
  · (try simp only [aG] at h2)
    refine ay (ah (aP rfl ?_))
    refine aU (iJ rfl (by rw [underlying5]; rfl) underlying21 (jk (by omega))) ?_
    refine aU (Qu 31 rfl rfl (by decide)) (aU (Qv 31 rfl rfl (by decide)) (aW rfl (aB (aj (ay (ah (aP rfl (aU (bV underlying104 sizeOf5 rfl rfl (by omega)) (aU (dB (bG underlying5 rfl) rfl (iI.X0 0 (hv _ (H)) (by omega))) ?_)))))))))
    refine aU (iJ rfl (by rw [underlying5]; rfl) underlying21 (jk (by omega))) ?_
    refine aP rfl ?_
    refine aU (xU .andNot rfl rfl (by simp)) ?_
    refine aP rfl ?_
    refine aU (xU .and rfl rfl (by simp)) ?_
    refine aU (xU .or rfl rfl (by simp)) ?_
    refine aW rfl (aW rfl (aB (aj (aN (aK (gQ (.inl rfl) results152 rfl rfl ?_))))))
    rcases hf with ⟨h1, h2⟩ | ⟨h1, h2⟩ | h1
    · rw [h1, DW hne h2]
      exact ⟨by rw [(Qy y0).1]; rfl, H⟩
    · rw [h1, OT h2.1]
      exact ⟨by rw [(Qy y0).2]; rfl, H⟩
    · exfalso; omega
  · (try simp only [aG] at h2)
    refine aQ (aj (ay ?_))
    have hf2 : 0 ≤ firstM (b.getD 0 0).toNat ∧ firstM (b.getD 0 0).toNat < 240 ∧ firstM (b.getD 0 0).toNat % 8 = (jQ (b.getD 0 0) : Int) ∧ 2 ≤ jQ (b.getD 0 0) ∧ 128 ≤ b.getD 0 0 ∧ firstM (b.getD 0 0).toNat / 16 < 5 ∧ OM.getD (firstM (b.getD 0 0).toNat / 16).toNat (0, 0) = (Jg (b.getD 0 0), BI (b.getD 0 0)) := by
      rcases hf with h1 | h1 | h1
      · exfalso; have := h1.1; omega
      · exfalso; have := h1.1; omega
      · exact h1
    obtain ⟨q1, q2, q3, q4, q5, q6, q7⟩ := hf2
    have hacc := hT.acc (firstM (b.getD 0 0).toNat / 16).toNat (by omega)
    rw [q7] at hacc
    refine ah (aP rfl (aU (fC 3 7 8 (by decide) (by decide) (by decide) rfl rfl (by omega)) ?_))
    refine aU (iJ rfl (by rw [underlying5]; rfl) underlying3 (Um (by omega))) ?_
    refine aW rfl (aB (aj (ay (ah (aP rfl (aU (sD 4 16 (by decide) (by decide) rfl rfl) (aU (wX underlying248 sizeOf247 rfl rfl (by omega)) ?_)))))))
    refine aU (vP (cs := [.int .u8 (Jg (b.getD 0 0)), .int .u8 (BI (b.getD 0 0))]) (by rw [underlying247]; rfl) (I8 underlying247 rfl) sizeOf247 rfl rfl (OJ (by rw [Nat.zero_add]; exact H.cell hacc.1) (by rw [Nat.zero_add]; exact H.cell hacc.2))) ?_
    refine gB (bW (l := [_, _]) H zeroValue247 rfl) ?_
    rintro _ w1 ⟨b1, rfl, H1⟩
    refine aI (bC 0 (l' := [_, _]) (us := [_, _]) H1 sizeOf247 rfl rfl rfl (aC (by first | rfl | assumption) (aC (by first | rfl | assumption) bg)) rfl rfl) ?_
    rintro _ w2 H2
    refine aB (aj (ay (ay (ah (aP rfl (aP rfl (aU (dV rfl rfl) (aB (aj (aO rfl (fun h3 => ?_) (fun h3 => ?_)))))))))))
    · (try simp only [aG] at h3)
      refine ay (ah (aW rfl (aW rfl (aB (aj (aN (aK (gQ (.inl rfl) results152 rfl rfl ?_))))))))
      exact ⟨by rw [sF (j := b.length) hne (by omega) (QA (Nat.le_refl _) hl)]; rfl, H2.right⟩
    · (try simp only [aG] at h3)
      refine aQ (aj (ay (ah (aP rfl (aU (bV underlying104 sizeOf5 rfl rfl (by omega)) (aU (dB (bG underlying5 rfl) rfl (iI.X0 1 (hv _ (H2.right)) (by omega))) (aW rfl (aB (aj (ay (ay (ah (aP rfl (bf 0 underlying247 rfl sizeOf5 rfl (dA underlying5 rfl (H2).get.2 rfl (aU (dV rfl rfl) (jL rfl (fun h4 => ?_) (fun h4 => ?_))))))))))))))))))
      · (try simp only [aG] at h4)
        refine bK (bK (bK (bK (jP rfl rfl (aB (aj (Dj (ay (ah (aW rfl (aW rfl (aB (aj (aN (aK (gQ (.inl rfl) results152 rfl rfl ?_))))))))))))))))
        exact ⟨by rw [sF (j := 1) hne (by omega) (X3 (by omega))]; rfl, H2.right⟩
      · (try simp only [aG] at h4)
        refine bn (bf 1 underlying247 rfl sizeOf5 rfl (bn (dA underlying5 rfl (H2).get.2 rfl (bn (aP rfl (bn (aU (dV rfl rfl) (jd rfl rfl (aB (aj (aO rfl (fun h5 => ?_) (fun h5 => ?_))))))))))))
        · (try simp only [aG] at h5)
          refine ay (ah (aW rfl (aW rfl (aB (aj (aN (aK (gQ (.inl rfl) results152 rfl rfl ?_))))))))
          exact ⟨by rw [sF (j := 1) hne (by omega) (X3 (by omega))]; rfl, H2.right⟩
        · (try simp only [aG] at h5)
          refine aQ (aj (ay (ay (ah (aP rfl (aU (wO rfl rfl) (aB (aj (aO rfl (fun h6 => ?_) (fun h6 => ?_))))))))))
          · (try simp only [aG] at h6)
            refine ay (ah (aP rfl (aU (fC 5 31 32 (by decide) (by decide) (by decide) rfl rfl (by omega)) ?_)))
            refine aU (iJ rfl (by rw [underlying5]; rfl) underlying21 (jk (by omega))) ?_
            refine aU (FZ 6 64 (by decide) (by decide) rfl rfl (jk (by omega))) (aP rfl (aU (fC 6 63 64 (by decide) (by decide) (by decide) rfl rfl (by omega)) ?_))
            refine aU (iJ rfl (by rw [underlying5]; rfl) underlying21 (jk (by omega))) ?_
            refine aU (uJ 6 64 (by decide) rfl rfl (by omega)) (aW rfl (aW rfl (aB (aj (aN (aK (gQ (.inl rfl) results152 rfl rfl ?_)))))))
            exact ⟨by rw [xW (n := 2) hne (by omega) (by decide) (by omega) (by simp only [uI, ok0, ok1 (b := b) (by omega) (by omega), Bool.and_true])]; rfl, H2.right⟩
          · (try simp only [aG] at h6)
            refine aQ (aj (ay (ah (aP rfl (aU (bV underlying104 sizeOf5 rfl rfl (by omega)) (aU (dB (bG underlying5 rfl) rfl (iI.X0 2 (hv _ (H2.right)) (by omega))) (aW rfl (aB (aj (ay (ay (ah (aP rfl (aU (dV rfl rfl) (jL rfl (fun h7 => ?_) (fun h7 => ?_))))))))))))))))
            · (try simp only [aG] at h7)
              refine bK (bK (jP rfl rfl (aB (aj (Dj (ay (ah (aW rfl (aW rfl (aB (aj (aN (aK (gQ (.inl rfl) results152 rfl rfl ?_))))))))))))))
              exact ⟨by rw [sF (j := 2) hne (by omega) (Un (by decide) (by omega))]; rfl, H2.right⟩
            · (try simp only [aG] at h7)
              refine bn (aP rfl (bn (aU (dV rfl rfl) (jd rfl rfl (aB (aj (aO rfl (fun h8 => ?_) (fun h8 => ?_))))))))
              · (try simp only [aG] at h8)
                refine ay (ah (aW rfl (aW rfl (aB (aj (aN (aK (gQ (.inl rfl) results152 rfl rfl ?_))))))))
                exact ⟨by rw [sF (j := 2) hne (by omega) (Un (by decide) (by omega))]; rfl, H2.right⟩
              · (try simp only [aG] at h8)
                refine aQ (aj (ay (ay (ah (aP rfl (aU (wO rfl rfl) (aB (aj (aO rfl (fun h9 => ?_) (fun h9 => ?_))))))))))
                · (try simp only [aG] at h9)
                  refine ay (ah (aP rfl (aU (fC 4 15 16 (by decide) (by decide) (by decide) rfl rfl (by omega)) ?_)))
                  refine aU (iJ rfl (by rw [underlying5]; rfl) underlying21 (jk (by omega))) ?_
                  refine aU (FZ 12 4096 (by decide) (by decide) rfl rfl (jk (by omega))) (aP rfl (aU (fC 6 63 64 (by decide) (by decide) (by decide) rfl rfl (by omega)) ?_))
                  refine aU (iJ rfl (by rw [underlying5]; rfl) underlying21 (jk (by omega))) ?_
                  refine aU (FZ 6 64 (by decide) (by decide) rfl rfl (jk (by omega))) (aU (uJ 12 4096 (by decide) rfl rfl (by omega)) (aP rfl (aU (fC 6 63 64 (by decide) (by decide) (by decide) rfl rfl (by omega)) ?_)))
                  refine aU (iJ rfl (by rw [underlying5]; rfl) underlying21 (jk (by omega))) ?_
                  refine aU (uJ 6 64 (by decide) rfl rfl (by omega)) (aW rfl (aW rfl (aB (aj (aN (aK (gQ (.inl rfl) results152 rfl rfl ?_)))))))
                  exact ⟨by rw [xW (n := 3) hne (by omega) (by decide) (by omega) (by simp only [uI, ok0, ok1 (b := b) (by omega) (by omega), okj (b := b) (j := 2) (by decide) (by omega), Bool.and_true])]; rfl, H2.right⟩
                · (try simp only [aG] at h9)
                  refine aQ (aj (ay (ah (aP rfl (aU (bV underlying104 sizeOf5 rfl rfl (by omega)) (aU (dB (bG underlying5 rfl) rfl (iI.X0 3 (hv _ (H2.right)) (by omega))) (aW rfl (aB (aj (ay (ay (ah (aP rfl (aU (dV rfl rfl) (jL rfl (fun h10 => ?_) (fun h10 => ?_))))))))))))))))
                  · (try simp only [aG] at h10)
                    refine bK (bK (jP rfl rfl (aB (aj (Dj (ay (ah (aW rfl (aW rfl (aB (aj (aN (aK (gQ (.inl rfl) results152 rfl rfl ?_))))))))))))))
                    exact ⟨by rw [sF (j := 3) hne (by omega) (Un (by decide) (by omega))]; rfl, H2.right⟩
                  · (try simp only [aG] at h10)
                    refine bn (aP rfl (bn (aU (dV rfl rfl) (jd rfl rfl (aB (aj (aO rfl (fun h11 => ?_) (fun h11 => ?_))))))))
                    · (try simp only [aG] at h11)
                      refine ay (ah (aW rfl (aW rfl (aB (aj (aN (aK (gQ (.inl rfl) results152 rfl rfl ?_))))))))
                      exact ⟨by rw [sF (j := 3) hne (by omega) (Un (by decide) (by omega))]; rfl, H2.right⟩
                    · (try simp only [aG] at h11)
                      refine aQ (aj (ay (ah (aP rfl (aU (fC 3 7 8 (by decide) (by decide) (by decide) rfl rfl (by omega)) ?_)))))
                      refine aU (iJ rfl (by rw [underlying5]; rfl) underlying21 (jk (by omega))) ?_
                      refine aU (FZ 18 262144 (by decide) (by decide) rfl rfl (jk (by omega))) (aP rfl (aU (fC 6 63 64 (by decide) (by decide) (by decide) rfl rfl (by omega)) ?_))
                      refine aU (iJ rfl (by rw [underlying5]; rfl) underlying21 (jk (by omega))) ?_
                      refine aU (FZ 12 4096 (by decide) (by decide) rfl rfl (jk (by omega))) (aU (uJ 18 262144 (by decide) rfl rfl (by omega)) (aP rfl (aU (fC 6 63 64 (by decide) (by decide) (by decide) rfl rfl (by omega)) ?_)))
                      refine aU (iJ rfl (by rw [underlying5]; rfl) underlying21 (jk (by omega))) ?_
                      refine aU (FZ 6 64 (by decide) (by decide) rfl rfl (jk (by omega))) (aU (uJ 12 4096 (by decide) rfl rfl (by omega)) (aP rfl (aU (fC 6 63 64 (by decide) (by decide) (by decide) rfl rfl (by omega)) ?_)))
                      refine aU (iJ rfl (by rw [underlying5]; rfl) underlying21 (jk (by omega))) ?_
                      refine aU (uJ 6 64 (by decide) rfl rfl (by omega)) (aW rfl (aW rfl (aB (aj (aN (gQ (.inl rfl) results152 rfl rfl ?_))))))
                      exact ⟨by rw [xW (n := 4) hne (by omega) (by decide) (by omega) (by simp only [uI, ok0, ok1 (b := b) (by omega) (by omega), okj (b := b) (j := 2) (by decide) (by omega), okj (b := b) (j := 3) (by decide) (by omega), Bool.and_true])]; rfl, H2.right⟩
end
end Go.Proofs.YtddekefihgejoaaGreatDoor
end
