import Derived.Test.YtgndbccogcofjaaGreatDoorZ2
import Derived.Test.YtgndbccogcofjaaGreatDoorZ3
import Derived.Laws.OwnMore
import Derived.Laws.CopyRow
import Derived.Laws.IdiomCopy
import Derived.Laws.ResultCell
import Derived.Laws.Rows
import Derived.Laws.IdiomStrings
set_option linter.unusedSimpArgs false
set_option linter.unusedVariables false
/- Texts of mine, joined, their names in short: More Fun Imm. -/
section
namespace Go.Proofs.YtgndbccogcofjaaGreatDoor
open Go.RowKit
section
variable {P : Program} {N : Sh} {L : List (Nat × Value)} {w0 w : World} {F : HP} {ty : TypeId}
theorem PU {fn : Func} {p g : Nat} {t ct : TypeId} {cs : Array Value} {fr : Nat × Nat} {d : TypeDesc} (hr : fn.results = #[.cell p t]) (hv : look L p = some (.pointer (some ⟨g, 0, none⟩)))
    (hu : P.underlying t = some d) (hd : (match d with | .struct _ | .array _ _ => true | _ => false) = true) (hi : (P.info? t).map (·.size) = some cs.size) (hg : w.heap[g]? = some (.cells cs ct fr)) : Vm P fn N L w (.agg cs) := fun a ha =>
  results_cell_row (P := P) hr a.tmps w g ct cs fr d (by rw [Array.getD_eq_getD_getElem?, ha.at_ _ _ hv]; rfl) hg hu hd hi
theorem XA {fn : Func} {p u g : Nat} {t ct : TypeId} {x : Value} {cs : Array Value} {fr : Nat × Nat} {d : TypeDesc} (hr : fn.results = #[.cell p t, .tmp u]) (hv : look L p = some (.pointer (some ⟨g, 0, none⟩))) (hx : look L u = some x)
    (hu : P.underlying t = some d) (hd : (match d with | .struct _ | .array _ _ => true | _ => false) = true) (hi : (P.info? t).map (·.size) = some cs.size) (hg : w.heap[g]? = some (.cells cs ct fr)) : Vm P fn N L w (.tuple #[.agg cs, x]) := fun a ha => by
  have h1 := results_cell_tmp hr a.tmps P w
  rw [Array.getD_eq_getD_getElem?, ha.at_ _ _ hv, Array.getD_eq_getD_getElem?, ha.at_ _ _ hx] at h1
  simp only [Option.getD_some, asAddr, Sem.run_pure, Result.andThen_ok, run_loadVar_row w g ct t cs fr d hg hu hd hi] at h1
  exact h1
theorem SI {fn : Func} {e : Exit} {S : Value → World → Prop} {p g : Nat} {t ct : TypeId} {cs : Array Value} {fr : Nat × Nat} {d : TypeDesc} (he : e = .ret ∨ e = .normal) (hr : fn.results = #[.cell p t]) (hv : look L p = some (.pointer (some ⟨g, 0, none⟩)))
    (hu : P.underlying t = some d) (hd : (match d with | .struct _ | .array _ _ => true | _ => false) = true) (hi : (P.info? t).map (·.size) = some cs.size) (hg : w.heap[g]? = some (.cells cs ct fr)) (h : S (.agg cs) w) (hds : N.ds = [] := by rfl) :
    WQ N (qX P fn S) e L w := vF he (PU hr hv hu hd hi hg) h hds
theorem fH {fn : Func} {e : Exit} {S : Value → World → Prop} {p u g : Nat} {t ct : TypeId} {x : Value} {cs : Array Value} {fr : Nat × Nat} {d : TypeDesc} (he : e = .ret ∨ e = .normal) (hr : fn.results = #[.cell p t, .tmp u]) (hv : look L p = some (.pointer (some ⟨g, 0, none⟩))) (hx : look L u = some x)
    (hu : P.underlying t = some d) (hd : (match d with | .struct _ | .array _ _ => true | _ => false) = true) (hi : (P.info? t).map (·.size) = some cs.size) (hg : w.heap[g]? = some (.cells cs ct fr)) (h : S (.tuple #[.agg cs, x]) w) (hds : N.ds = [] := by rfl) :
    WQ N (qX P fn S) e L w := vF he (XA hr hv hx hu hd hi hg) h hds
def GU : TypeDesc → Bool
  | .struct _ => true
  | .array _ _ => true
  | _ => false
theorem FT {t : TypeId} {d : TypeDesc} (h : P.underlying t = some d) (hd : GU d = true) : lJ P t = false := by
  unfold lJ; rw [h]; cases d <;> simp_all [GU]
theorem sS {t : TypeId} {d : TypeDesc} {b n : Nat} (o : Nat) {cs : Array Value} {xs : List Value} {et : TypeId} {fr : Nat × Nat} {x : Operand} (hu : P.underlying t = some d) (hd : GU d = true) (hs : ∀ w, (sizeOf t).run P w = .ok n w)
    (hn : xs.length = n) (hx : ev L x = some (.pointer (some ⟨b, o, none⟩))) (hb : w.heap[b]? = some (.cells cs et fr)) (hxs : (cs.toList.drop o).take n = xs) : Val P L (.load t x) ty w (.agg xs.toArray) w :=
  vI (by rw [hu]; rfl) (FT hu hd) hs hn hx (fun j u hj => gK hb (by
    rw [← hxs, List.getElem?_take] at hj
    split at hj
    · rw [List.getElem?_drop] at hj; simpa using hj
    · cases hj))
theorem aT {t : TypeId} {b : Nat} (o : Nat) {l l' : List Value} {et : TypeId} {u : Value} {x y : Operand} (H : aB w0 w (dH b (.cells l.toArray et (0, 0)) • F)) (hs : ∀ w, (sizeOf t).run P w = .ok 1 w) (hx : ev L x = some (.pointer (some ⟨b, o, none⟩))) (hy : ev L y = some u) (h1 : u.oneCell' = true)
    (ho : Nat.ble (o + 1) l.length = true) (hl : l.set o u = l') : rM P L (.store t x y) ty w fun _ w' => aB w0 w' (dH b (.cells l'.toArray et (0, 0)) • F) := by
  subst hl
  refine (dJ H hs hx hy h1 (by have := Nat.le_of_ble_eq_true ho; simp; omega)).mono fun v w' H' => ?_
  simpa using H'
theorem dG {t : TypeId} {b n : Nat} (o : Nat) {l l' : List Value} {et : TypeId} {us : List Value} {x y : Operand} (H : aB w0 w (dH b (.cells l.toArray et (0, 0)) • F)) (hs : ∀ w, (sizeOf t).run P w = .ok n w) (hx : ev L x = some (.pointer (some ⟨b, o, none⟩))) (hy : ev L y = some (.agg us.toArray)) (hn : us.length = n) (h1 : ∀ u ∈ us, u.oneCell' = true)
    (ho : Nat.ble (o + us.length) l.length = true) (hl : l.take o ++ us ++ l.drop (o + us.length) = l') : rM P L (.store t x y) ty w fun _ w' => aB w0 w' (dH b (.cells l'.toArray et (0, 0)) • F) := by
  subst hl
  subst hn
  have ho' := Nat.le_of_ble_eq_true ho
  have hst := run_storeCells_at P b o et us 0 l.toArray w H.get.2 (by simpa using ho') h1
  refine CO (w' := w.setRow b (l.take o ++ us ++ l.drop (o + us.length)).toArray) ?_ (H.turn rfl rfl rfl (by simp [World.setRow]) (setRow_heap _ _ _ _ _ _ H.get.2) fun k hk _ => setRow_other _ _ _ _ hk)
  intro ρ hρ d pos mJ g
  simp at hst
  simp [execOp, hρ _ _ hx, hρ _ _ hy, Instr.storeAt, Instr.sureAddr, storeVar, hs, Value.cells, hst]
theorem gY {t : TypeId} {z : Value} {l : List Value} (H : aB w0 w F) (hz : ∀ w, (zeroValue t).run P w = .ok z w) (hl : z.cells = l.toArray) : rM P L (.alloc t) ty w fun v w' => ∃ b, v = .pointer (some ⟨b, 0, none⟩) ∧ aB w0 w' (dH b (.cells l.toArray t (0, 0)) • F) := by
  have := sQ (L := L) (ty := ty) H hz
  rwa [hl] at this
theorem jo {t : TypeId} {v : Value} {x : Operand} {l : List Value} (H : aB w0 w F) (hx : ev L x = some v) (hl : v.cells = l.toArray) : rM P L (.box t x) ty w fun u w' => ∃ b, u = .pointer (some ⟨b, 0, none⟩) ∧ aB w0 w' (dH b (.cells l.toArray t (0, 0)) • F) := by
  have := MR (P := P) (t := t) (ty := ty) H hx
  rwa [hl] at this
theorem bT {t e n : Nat} {k : IntKind} {ps : List (Nat × Operand)} {l : List Int} {z : Value} (H : aB w0 w F) (ht : P.underlying t = some (.slice e)) (hs : ∀ w, (sizeOf e).run P w = .ok 1 w) (hz : ∀ w, (zeroValue e).run P w = .ok z w) (hz1 : z.cells.size = 1)
    (hp : RV L ps = some (placed 0 (l.map (Value.int k)))) (hn : l.length = n) (PL : n ≤ 16777216) :
    rM P L (.buildSlice t n ps.toArray) ty w fun v w' => aB w0 w' (gW e k v l • F) := by
  subst hn
  exact pG H ht hs hz hz1 hp (by simp) PL (CY _ _)
theorem iw.pos {k : IntKind} {a : Option Addr} {n c : Nat} {l : List Int} (h : iw w k (.slice a n c) l) (hp : 0 < l.length) : ∃ b o, a = some ⟨b, o, none⟩ := by
  obtain ⟨a', c', e, _, _, hh⟩ := h.open
  cases e
  obtain ⟨b, o, e, _⟩ := hh hp
  exact ⟨b, o, e⟩
theorem iw.SK {k : IntKind} {b o n c : Nat} {l : List Int} {i : Int} (h : iw w k (.slice (some ⟨b, o, none⟩) n c) l) (hi : 0 ≤ i ∧ i < l.length) : w.cell? ⟨b, o + i.toNat * 1, none⟩ = some (.int k (l.getD i.toNat 0)) := by
  obtain ⟨a', c', e, _, _, hh⟩ := h.open
  cases e
  obtain ⟨b', o', e, hc⟩ := hh (by omega)
  cases e
  rw [Nat.mul_one]
  exact hc _ (by omega)
theorem iw.GV {k : IntKind} {b o n c i : Nat} {l : List Int} (h : iw w k (.slice (some ⟨b, o, none⟩) n c) l) (hi : i < l.length) : w.cell? ⟨b, o + (i : Int).toNat * 1, none⟩ = some (.int k (l.getD i 0)) := by
  have := h.SK (i := i) (by omega)
  rwa [Int.toNat_natCast] at this ⊢
theorem aB.zk {e : TypeId} {k : IntKind} (h : aB w0 w F) (a : Option Addr) : aB w0 w (gW e k (.slice a 0 0) [] • F) := h.jf a
theorem iw.zn {k : IntKind} {v : Value} {l : List Int} (h : iw w k v l) (hp : 0 < l.length) : ∃ b o c, v = .slice (some ⟨b, o, none⟩) l.length c := by
  obtain ⟨a, c, rfl, _, _, hh⟩ := h.open
  obtain ⟨b, o, rfl, _⟩ := hh hp
  exact ⟨b, o, c, rfl⟩
theorem Rd.zn {sz n : Nat} {v : Value} {xs : List Value} (h : Rd w sz v n xs) (hp : 0 < n) : ∃ b o c, v = .slice (some ⟨b, o, none⟩) n c := by
  obtain ⟨_, a, c, rfl, _, _, hh⟩ := h
  obtain ⟨b, o, rfl, _⟩ := hh hp
  exact ⟨b, o, c, rfl⟩
theorem jC {t e : TypeId} {x : Operand} {v : Value} {k : IntKind} {l : List Int} (hr : iw w k v l) (ht : P.underlying t = some (.slice e)) (hx : ev L x = some v) {w1 : World} : Val P L (.call ⟨.builtin .len, #[x], #[t]⟩) ty w1 (.int .i64 l.length) w1 := by
  obtain ⟨a, c, rfl, _⟩ := hr.open
  exact fO ht hx
theorem jg {t e sz n : Nat} {x : Operand} {v : Value} {xs : List Value} (hr : Rd w sz v n xs) (ht : P.underlying t = some (.slice e)) (hx : ev L x = some v) {w1 : World} : Val P L (.call ⟨.builtin .len, #[x], #[t]⟩) ty w1 (.int .i64 n) w1 := by
  obtain ⟨_, a, c, rfl, _⟩ := hr
  exact fO ht hx
theorem uF {t e s n sz : Nat} {x : Operand} {lo hi : Option Operand} {v : Value} {xs : List Value} {l h : Int} (hr : Rd w sz v n xs) (ht : P.underlying t = some (.slice e)) (hs : ∀ w, (sizeOf e).run P w = .ok s w) (hx : ev L x = some v)
    (hl : (match lo with | none => some (Value.int .i64 0) | some o => ev L o) = some (.int .i64 l)) (hh : (match hi with | none => some (Value.int .i64 n) | some o => ev L o) = some (.int .i64 h)) (h0 : 0 ≤ l ∧ l ≤ h ∧ h ≤ n) {w1 : World} :
    Val P L (.slice t x lo hi none) ty w1 (ni s l.toNat h.toNat v) w1 := by
  obtain ⟨_, a, c, rfl, hc, _⟩ := hr
  exact qg ht hs hx hl hh (by omega)
theorem Rd.UD {b o n c n' : Nat} {xs : List Value} (h : Rd w 1 (.slice (some ⟨b, o, none⟩) n c) n' xs) (hi : 0 < n') : w.cell? ⟨b, o + (0 : Int).toNat * 1, none⟩ = some (xs.getD 0 undef) := by
  obtain ⟨_, a', c', e, _, _, hh⟩ := h
  cases e
  obtain ⟨b', o', e, hc⟩ := hh (by omega)
  cases e
  exact hc 0 (by omega)
theorem iw.UD {k : IntKind} {b o n c : Nat} {l : List Int} (h : iw w k (.slice (some ⟨b, o, none⟩) n c) l) (hi : 0 < l.length) : w.cell? ⟨b, o + (0 : Int).toNat * 1, none⟩ = some (.int k (l.getD 0 0)) := by
  obtain ⟨a', c', e, _, _, hh⟩ := h.open
  cases e
  obtain ⟨b', o', e, hc⟩ := hh hi
  cases e
  exact hc 0 hi
theorem Rd.pos {sz n c n' : Nat} {a : Option Addr} {xs : List Value} (h : Rd w sz (.slice a n c) n' xs) (hp : 0 < n') : ∃ b o, a = some ⟨b, o, none⟩ := by
  obtain ⟨_, a', c', e, _, _, hh⟩ := h
  cases e
  obtain ⟨b, o, e, _⟩ := hh hp
  exact ⟨b, o, e⟩
theorem Rd.GV {b o n c i n' : Nat} {xs : List Value} (h : Rd w 1 (.slice (some ⟨b, o, none⟩) n c) n' xs) (hi : i < n') : w.cell? ⟨b, o + (i : Int).toNat * 1, none⟩ = some (xs.getD i undef) := by
  obtain ⟨_, a', c', e, _, _, hh⟩ := h
  cases e
  obtain ⟨b', o', e, hc⟩ := hh (by omega)
  cases e
  rw [Nat.mul_one, Int.toNat_natCast]
  exact hc _ (by omega)
theorem Rd.SK {b o n c n' : Nat} {i : Int} {xs : List Value} (h : Rd w 1 (.slice (some ⟨b, o, none⟩) n c) n' xs) (hi : 0 ≤ i ∧ i < n') : w.cell? ⟨b, o + i.toNat * 1, none⟩ = some (xs.getD i.toNat undef) := by
  have := h.GV (i := i.toNat) (by omega)
  rwa [Int.toNat_natCast] at this
theorem Rd.atS {b o n c i n' sz off : Nat} {xs : List Value} (h : Rd w sz (.slice (some ⟨b, o, none⟩) n c) n' xs) (hi : i < n') (ho : off < sz) : w.cell? ⟨b, o + (i : Int).toNat * sz + off, none⟩ = some (xs.getD (i * sz + off) undef) := by
  have hlt : i * sz + off < n' * sz := Nat.lt_of_lt_of_le (by omega : i * sz + off < i * sz + sz) (by rw [← Nat.succ_mul]; exact Nat.mul_le_mul_right _ hi)
  obtain ⟨_, a', c', e, _, _, hh⟩ := h
  cases e
  obtain ⟨b', o', e, hc⟩ := hh (by omega)
  cases e
  rw [Int.toNat_natCast, Nat.add_assoc]
  exact hc _ hlt
theorem Jb {t e bytes : Nat} {k kl kc : IntKind} {x y : Operand} {n : Int} (H : aB w0 w F) (ht : P.underlying t = some (.slice e)) (hi : (P.info? e).map (fun i => (i.zero, i.size, i.bytes)) = some (some (.int k 0), 1, bytes))
    (hx : ev L x = some (.int kl n)) (hy : ev L y = some (.int kc n)) (h0 : 0 ≤ n) (hb : n.toNat * bytes ≤ 281474976710656) (h63 : n ≤ 9223372036854775807) :
    rM P L (.makeSlice t x y) ty w fun v w' => aB w0 w' (gW e k v (List.replicate n.toNat 0) • F) := by
  obtain ⟨i, hi1, hi2⟩ := Option.map_eq_some_iff.1 hi
  simp only [Prod.mk.injEq] at hi2
  obtain ⟨hz1, hs1, hb1⟩ := hi2
  have hb' : (i.bytes : Int) * n ≤ 281474976710656 := by
    have h : ((i.bytes * n.toNat : Nat) : Int) ≤ 281474976710656 := by rw [hb1, Nat.mul_comm]; omega
    rw [Int.natCast_mul, Int.toNat_of_nonneg h0] at h
    exact h
  have hr := run_make (P := P) w t e i (.int k 0) ht hi1 hz1 kl kc n n h0 (Int.le_refl _) hb' h63
  refine oW (v := .slice (some ⟨w.heap.size, 0, none⟩) n.toNat n.toNat) (w' := w.alloc (.cells (madeCells (Value.int k 0).cells (n.toNat * i.size)) e)) ?_ ?_
  · intro ρ hρ d pos mJ g
    simp only [execOp, hρ _ _ hx, hρ _ _ hy]
    simp [Sem.run_bind, hr]
  · refine (H.alloc _).vJ (o := 0) (c := n.toNat) (by simp) (by simp) (by simp) (by omega) (by simp [size_madeCells, hs1]) fun j hj => ?_
    have hj' : j < n.toNat := by simpa using hj
    rw [hs1, Nat.mul_one]
    simp [madeCells, Value.cells, hj', Nat.mod_one, List.getD_eq_getElem?_getD]
def dP {α : Type _} (l : List α) (i : Nat) (ys : List α) : List α := l.take i ++ ys ++ l.drop (i + ys.length)
theorem bP {α : Type _} {l : List α} {i : Nat} {ys : List α} (h : i + ys.length ≤ l.length) : (dP l i ys).length = l.length := by simp [dP]; omega
theorem KT (s n c : Nat) (a : Option Addr) : ni s 0 n (.slice a n c) = .slice a n c := by
  simp only [ni, Ae, Nat.sub_zero, Nat.zero_mul]
  split
  · rfl
  · cases a <;> simp [Addr.add]
theorem wM {t e ts : Nat} {k : IntKind} {x y : Operand} {v sv : Value} {l m : List Int} {i : Nat} (H : aB w0 w (gW e k v l • F)) (hr : iw w k sv m) (ht : P.underlying t = some (.slice e)) (hs : (P.info? e).map (·.size) = some 1)
    (hx : ev L x = some (ni 1 i l.length v)) (hy : ev L y = some sv) (h : i + m.length ≤ l.length) :
    rM P L (.call ⟨.builtin .copy, #[x, y], #[t, ts]⟩) ty w fun v' w' => v' = .int .i64 m.length ∧ aB w0 w' (gW e k v (dP l i m) • F) := by
  have hlen := H.zh
  by_cases h0 : m.length = 0
  · obtain rfl : m = [] := List.eq_nil_of_length_eq_zero h0
    obtain ⟨a, c, hv, _⟩ := (H.aS).form
    subst hv
    obtain ⟨a2, c2, rfl, _⟩ := hr.open
    refine oW (v := .int .i64 0) (w' := w) (kZ (vs := [ni 1 i l.length (.slice a l.length c), .slice a2 0 c2]) (by simp [yZ, hx, hy]) fun _ => ?_) ⟨rfl, by simpa [dP] using H⟩
    have := run_copy_none (P := P) w t ts ty e (Ae a i c 1) a2 (l.length - i) (c - i) 0 c2 ht hs (by simp)
    simp only [builtin, Sem.run_bind]
    rw [show ni 1 i l.length (.slice a l.length c) = .slice (Ae a i c 1) (l.length - i) (c - i) from rfl]
    simp only [List.length_nil] at *
    rw [this]
    rfl
  · rcases H.uz with ⟨a, hv, hn, hxs, H1⟩ | ⟨g, o, c, cur, hv, h2, h3, h4, h5, H1⟩
    · omega
    subst hv
    obtain ⟨a2, c2, rfl, _, _, hc⟩ := hr.open
    obtain ⟨b, o2, rfl, hcell⟩ := hc (by omega)
    have hci : ¬ c = i := by omega
    have hd : ni 1 i l.length (.slice (some ⟨g, o, none⟩) l.length c) = .slice (some ⟨g, o + i, none⟩) (l.length - i) (c - i) := by simp [ni, Ae, hci, qP]
    rw [hd] at hx
    have hrun := run_copy_row (P := P) w t ts ty e g (o + i) (l.length - i) (c - i) ⟨b, o2, none⟩ m.length c2 cur e (m.map (Value.int k)) ht hs H1.get.2 (by rw [List.length_map]; exact (Nat.min_eq_left (by omega)).symm) (fun j u hj => by
      have hj' : j < m.length := by have := (List.getElem?_eq_some_iff.1 hj).1; simpa using this
      rw [qP, hcell j hj']
      simp [hj'] at hj
      rw [← hj, List.getD_eq_getElem?_getD, List.getElem?_eq_getElem hj']; rfl) (by simp; omega) (CY _ _)
    refine oW (v := .int .i64 m.length) (w' := w.setRow g (cur.toList.take (o + i) ++ m.map (Value.int k) ++ cur.toList.drop (o + i + (m.map (Value.int k)).length)).toArray)
      (kZ (vs := [.slice (some ⟨g, o + i, none⟩) (l.length - i) (c - i), .slice (some ⟨b, o2, none⟩) m.length c2]) (by simp [yZ, hx, hy]) fun _ => ?_) ⟨rfl, ?_⟩
    · simp only [builtin, Sem.run_bind]
      rw [hrun]
      simp [goInt]
    · have HT := H1.turn (w' := w.setRow g (cur.toList.take (o + i) ++ m.map (Value.int k) ++ cur.toList.drop (o + i + (m.map (Value.int k)).length)).toArray) (o' := .cells (cur.toList.take (o + i) ++ m.map (Value.int k) ++ cur.toList.drop (o + i + (m.map (Value.int k)).length)).toArray e (0, 0)) rfl rfl rfl (by simp [World.setRow]) (setRow_heap _ _ _ _ _ _ H1.get.2) fun k hk _ => setRow_other _ _ _ _ hk
      have hsp : (dP l i m).length = l.length := bP h
      unfold gW
      rw [hsp]
      refine HT.vJ (by simp [hsp]) rfl h2 h3 (by simp; omega) fun j hj => ?_
      have hj' : j < l.length := by simpa using hj
      have h5' := h5 j hj
      simp only [List.getElem?_toArray, List.length_map]
      by_cases h6 : j < i
      · rw [List.append_assoc, List.getElem?_append_left (by simp; omega), List.getElem?_take_of_lt (by omega), Array.getElem?_toList, h5']
        simp only [List.getD_eq_getElem?_getD, List.getElem?_map]
        simp only [dP, List.append_assoc]
        rw [List.getElem?_append_left (by simp; omega), List.getElem?_take_of_lt h6]
      · by_cases h7 : j < i + m.length
        · rw [List.getElem?_append_left (by simp; omega), List.getElem?_append_right (by simp; omega)]
          simp only [List.getD_eq_getElem?_getD, List.getElem?_map, dP]
          rw [List.getElem?_append_left (by simp; omega), List.getElem?_append_right (by simp; omega)]
          simp only [List.length_take, Array.length_toList, show min (o + i) cur.size = o + i from by omega, show min i l.length = i from by omega, show o + j - (o + i) = j - i from by omega]
          rw [List.getElem?_eq_getElem (by omega)]
          rfl
        · rw [List.getElem?_append_right (by simp; omega), List.getElem?_drop]
          simp only [List.getD_eq_getElem?_getD, List.getElem?_map, dP]
          rw [List.getElem?_append_right (by simp; omega), List.getElem?_drop]
          simp only [List.length_append, List.length_map, List.length_take, Array.length_toList, show min (o + i) cur.size = o + i from by omega, show min i l.length = i from by omega]
          rw [show o + i + m.length + (o + j - (o + i + m.length)) = o + j from by omega, Array.getElem?_toList, h5', show i + m.length + (j - (i + m.length)) = j from by omega]
          simp [List.getD_eq_getElem?_getD]
theorem Jc {src dst e : TypeId} {x : Operand} {s : ByteArray} {l : List Int} (H : aB w0 w F) (hs : P.underlying src = some .string) (hd : P.underlying dst = some (.slice e)) (he : P.underlying e = some (.int .i32)) (hx : ev L x = some (.string s))
    (hl : Conv.runesFrom s s.size 0 #[] = (l.map (Value.int .i32)).toArray) (hb : l.length ≤ 70368744177664) : rM P L (.convert src dst x) ty w fun v w' => aB w0 w' (gW e .i32 v l • F) := by
  have hsz : (Conv.runesFrom s s.size 0 #[]).size = l.length := by rw [hl]; simp
  have hr := run_runes_of_string (P := P) w src dst e s hs hd he (by rw [hsz]; exact hb)
  have hge := grownCap_ge w l.length 0 e
  rw [hsz, hl] at hr
  refine oW (v := .slice (some ⟨w.heap.size, 0, none⟩) l.length (grownCap w l.length 0 e)) (w' := w.drew.alloc (.cells ((l.map (Value.int .i32)).toArray ++ Array.replicate (grownCap w l.length 0 e - l.length) (.int .i32 0)) e)) ?_ ?_
  · intro ρ hρ d pos mJ g
    simp only [execOp, hρ _ _ hx]
    simp [Sem.run_bind, hr]
  · refine (H.drew.alloc _).vJ (o := 0) (by simp) rfl hge (wL w _ _ _ (by omega)) (by simp; omega) fun j hj => ?_
    have hj' : j < l.length := by simpa using hj
    rw [Nat.zero_add, Array.getElem?_append_left (by simpa using hj'), List.getD_eq_getElem?_getD]
    simp [hj']
end
end Go.Proofs.YtgndbccogcofjaaGreatDoor
end
section
namespace Go.Proofs.YtgndbccogcofjaaGreatDoor
open Go.RowKit
section
variable {P : Program} {L : List (Nat × Value)} {w0 w : World} {F : HP} {ty : TypeId}
def FU (P : Program) (fv : Value) (vs : List Value) (w : World) (T : Value → World → Prop) : Prop :=
  ∃ f first cap fn c, fv = .func (.func f) (List.toArray first) (List.toArray cap) ∧ P.funcs[f]? = some fn ∧ (fn.name == "runtime.NumGoroutine") = false ∧ fn.body = some c ∧ fG P f (first ++ vs ++ cap).toArray w T
theorem pI {x : Operand} {args : List Operand} {ts : Array TypeId} {fv : Value} {vs : List Value} {T : Value → World → Prop} (hx : ev L x = some fv) (ha : yZ L args = some vs) (h : FU P fv vs w T) :
    rM P L (.call ⟨.value x, args.toArray, ts⟩) ty w T := by
  obtain ⟨f, first, cap, fn, c, rfl, hf, hn, hb, hr⟩ := h
  exact yH (KO hx ha hf hn hb) hr
def FV (P : Program) (w0 : World) (F : HP) (fv : Value) (g : Int → Bool) : Prop :=
  fv.oneCell' = true ∧ ∀ (G : HP) (W : World), aB w0 W (G • F) → ∀ r, FU P fv [.int .i32 r] W fun v W' => v = .bool (g r) ∧ aB w0 W' (G • F)
theorem Bd {t e s n : Nat} {x : Operand} {b o : Nat} (ht : P.underlying t = some (.array n e)) (hs : ∀ w, (sizeOf e).run P w = .ok s w) (hx : ev L x = some (.pointer (some ⟨b, o, none⟩))) :
    Val P L (.slice t x none none none) ty w (.slice (some ⟨b, o, none⟩) n n) w := fun ρ hρ d pos mJ g => by
  simp [execOp, hρ _ _ hx, Instr.sliceAt, run_underlying ht, Instr.sliceBounds, Instr.sureAddr, hs, Addr.add]
end
end Go.Proofs.YtgndbccogcofjaaGreatDoor
end
section
namespace Go.Proofs.YtgndbccogcofjaaGreatDoor
open Go.RowKit
def xQ (I : Hp) (k : IntKind) (v : Value) (l : List Int) : Prop := ∃ a c, v = .slice a l.length c ∧ l.length ≤ c ∧ (c : Int) ≤ 9223372036854775807 ∧
  (0 < l.length → ∃ b o cs e fr, a = some ⟨b, o, none⟩ ∧ I b = some (.cells cs e fr) ∧ ∀ j, j < l.length → cs[o + j]? = some (.int k (l.getD j 0)))
theorem xQ.mono {I I' : Hp} {k : IntKind} {v : Value} {l : List Int} (hl : Hp.le I I') (h : xQ I k v l) : xQ I' k v l := by
  obtain ⟨a, c, h1, h2, h3, h4⟩ := h
  exact ⟨a, c, h1, h2, h3, fun hp => let ⟨b, o, cs, e, fr, e1, e2, e3⟩ := h4 hp; ⟨b, o, cs, e, fr, e1, hl _ _ e2, e3⟩⟩
def Dc (k : IntKind) (v : Value) (l : List Int) : HP := know (fun I => xQ I k v l) fun _ _ hl h => h.mono hl
theorem iw.mk {w : World} {k : IntKind} {v : Value} {l : List Int} {a : Option Addr} {c : Nat} (h1 : v = .slice a l.length c) (h2 : l.length ≤ c) (h3 : (c : Int) ≤ 9223372036854775807)
    (h4 : 0 < l.length → ∃ b o, a = some ⟨b, o, none⟩ ∧ ∀ j, j < l.length → w.cell? ⟨b, o + j, none⟩ = some (.int k (l.getD j 0))) : iw w k v l := by
  refine ⟨by simp, a, c, h1, h2, h3, fun hp => ?_⟩
  obtain ⟨b, o, e, hc⟩ := h4 hp
  refine ⟨b, o, e, fun j hj => ?_⟩
  rw [hc j (by omega)]
  simp [List.getD_eq_getElem?_getD, show j < l.length by omega]
theorem xQ.rd {w : World} {n : Nat} {I : Hp} {k : IntKind} {v : Value} {l : List Int} (h : xQ I k v l) (hI : ∀ k o, I k = some o → n ≤ k ∧ w.heap[k]? = some o) : iw w k v l := by
  obtain ⟨a, c, h1, h2, h3, h4⟩ := h
  exact iw.mk h1 h2 h3 fun hp => let ⟨b, o, cs, e, fr, e1, e2, e3⟩ := h4 hp; ⟨b, o, e1, fun j hj => gK (hI _ _ e2).2 (e3 j hj)⟩
section
variable {w0 w : World} {F : HP} {e : TypeId} {k : IntKind} {v : Value} {l : List Int}
theorem aB.GX (H : aB w0 w (Dc k v l • F)) : iw w k v l := let ⟨I, h, hI⟩ := H.vw; h.rd hI
theorem uG {K K' : Hp → Prop} {hK : ∀ I I', Hp.le I I' → K I → K I'} {hK' : ∀ I I', Hp.le I I' → K' I → K' I'} (h : ∀ I, K I → K' I) (B : HP) : GI (know K hK • B) (know K' hK' • B) := fun I x ha =>
  (kL K' hK' B I x).2 ⟨h I ((kL K hK B I x).1 ha).1, ((kL K hK B I x).1 ha).2⟩
theorem qB {K K' M : Hp → Prop} {hK : ∀ I I', Hp.le I I' → K I → K I'} {hK' : ∀ I I', Hp.le I I' → K' I → K' I'} {hM : ∀ I I', Hp.le I I' → M I → M I'} (h : ∀ I, K I → K' I → M I) (B : HP) : GI (know K hK • know K' hK' • B) (know M hM • B) := fun I x ha => by
  have h1 := (kL K hK _ I x).1 ha
  have h2 := (kL K' hK' _ I x).1 h1.2
  exact (kL M hM B I x).2 ⟨h I h1.1 h2.1, h2.2⟩
theorem aB.GY {K : Hp → Prop} {hK : ∀ I I', Hp.le I I' → K I → K I'} (h : ∀ I, K I) (H : aB w0 w F) : aB w0 w (know K hK • F) := H.ES fun I x ha => (kL K hK F I x).2 ⟨h I, ha⟩
theorem aB.kF (H : aB w0 w (gW e k v l • F)) : aB w0 w (Dc k v l • F) := by
  rcases H.uz with ⟨a, rfl, h1, h2, H1⟩ | ⟨g, o, c, cur, rfl, h2, h3, h4, h5, H1⟩
  · have hl : l = [] := by simpa using h2
    subst hl
    exact H1.BZ.ES fun I x ha => (kL _ _ F I x).2 ⟨⟨a, 0, rfl, by simp, by decide, fun h => by simp at h⟩, by rw [Go.Proofs.YtgndbccogcofjaaGreatDoor.jQ] at ha; exact ha⟩
  · refine H1.freeze.ES (uG (fun I hI => ⟨_, c, rfl, h2, h3, fun _ => ⟨g, o, cur, e, (0, 0), rfl, hI, fun j hj => ?_⟩⟩) F)
    rw [h5 j (by omega)]
    simp [List.getD_eq_getElem?_getD, hj]
end
end Go.Proofs.YtgndbccogcofjaaGreatDoor
end
