import Derived.Test.YtgmpclifphbjkaaGreatDoorZ4
import Derived.Test.YtgmpclifphbjkaaGreatDoorZ7
/- Texts of mine, joined: Ring. -/
section
/- The kill ring's methods. -/
set_option linter.unusedSimpArgs false
set_option linter.unusedVariables false
namespace Go.Proofs.YtgmpclifphbjkaaGreatDoor
open Go.RowKit

/-- A ring's cells: whether it is made, the slots, the head, how many, the place. -/
def ringCells (s : List Value) (h n p : Nat) : Array Value := (Value.bool true :: (s ++ [.int .i64 h, .int .i64 n, .int .i64 p])).toArray
section
variable {s : List Value} {h n p : Nat}
theorem ring_size (hs : s.length = 60) : (ringCells s h n p).size = 64 := by simp [ringCells, hs]
theorem ring_0 : (ringCells s h n p)[0]? = some (.bool true) := by simp [ringCells]
theorem ring_slot (hs : s.length = 60) {i : Nat} (hi : i < 60) : (ringCells s h n p)[1 + i]? = some (s.getD i undef) := by
  simp [ringCells, Nat.add_comm 1 i, List.getElem?_append_left (show i < s.length by omega), List.getD_eq_getElem?_getD, show i < s.length by omega]
theorem ring_head (hs : s.length = 60) : (ringCells s h n p)[61]? = some (.int .i64 h) := by simp [ringCells, hs]
theorem ring_many (hs : s.length = 60) : (ringCells s h n p)[62]? = some (.int .i64 n) := by simp [ringCells, hs]
theorem ring_place (hs : s.length = 60) : (ringCells s h n p)[63]? = some (.int .i64 p) := by simp [ringCells, hs]
theorem ring_set_head (hs : s.length = 60) (x : Nat) : (ringCells s h n p).setIfInBounds 61 (.int .i64 x) = ringCells s x n p := by
  apply Array.ext'; simp [ringCells, List.set_append, hs]
theorem ring_set_many (hs : s.length = 60) (x : Nat) : (ringCells s h n p).setIfInBounds 62 (.int .i64 x) = ringCells s h x p := by
  apply Array.ext'; simp [ringCells, List.set_append, hs]
theorem ring_set_place (hs : s.length = 60) (x : Nat) : (ringCells s h n p).setIfInBounds 63 (.int .i64 x) = ringCells s h n x := by
  apply Array.ext'; simp [ringCells, List.set_append, hs]
theorem ring_set_slot (hs : s.length = 60) {i : Nat} (hi : i < 60) (v : Value) : (ringCells s h n p).setIfInBounds (1 + i) v = ringCells (s.set i v) h n p := by
  apply Array.ext'; simp [ringCells, Nat.add_comm 1 i, List.set_append, hs, hi]
end

/-- What the slots hold: entry i stands i places behind the head. -/
def Slots (I : Hp) (s : List Value) (h : Nat) (E : List (List Int)) : Prop := ∀ i, i < E.length → ImmI I .i32 (s.getD ((h + i) % 60) undef) (E.getD i [])
def slotsHP (s : List Value) (h : Nat) (E : List (List Int)) : HP := know (fun I => Slots I s h E) fun _ _ hl hk i hi => (hk i hi).mono hl
/-- A ring at p: its entries, the newest first; its place. -/
def RingRep (p : Nat) (E : List (List Int)) (place : Nat) : HP := exHP fun (x : List Value × Nat) =>
  fact (x.1.length = 60 ∧ x.2 < 60 ∧ E.length ≤ 60 ∧ (place < E.length ∨ place = 0) ∧ (∀ e ∈ E, e.length ≤ 1024) ∧ ∀ v ∈ x.1, v.oneCell' = true) • blk p (.cells (ringCells x.1 x.2 E.length place) 155 (0, 0)) • slotsHP x.1 x.2 E

section
variable {w0 w : World} {F : HP} {p place : Nat} {E : List (List Int)}
theorem Holds.ring (H : Holds w0 w (RingRep p E place • F)) : ∃ s h, s.length = 60 ∧ h < 60 ∧ E.length ≤ 60 ∧ (place < E.length ∨ place = 0) ∧ (∀ e ∈ E, e.length ≤ 1024) ∧ (∀ v ∈ s, v.oneCell' = true) ∧ Holds w0 w (blk p (.cells (ringCells s h E.length place) 155 (0, 0)) • slotsHP s h E • F) := by
  obtain ⟨⟨s, h⟩, H⟩ := H.ex_sep
  obtain ⟨⟨h1, h2, h3, h4, h5, h6⟩, H⟩ := H.flat.fact
  exact ⟨s, h, h1, h2, h3, h4, h5, h6, H.flat⟩
theorem Holds.mk_ring {s : List Value} {h : Nat} (h1 : s.length = 60) (h2 : h < 60) (h3 : E.length ≤ 60) (h4 : place < E.length ∨ place = 0) (h5 : ∀ e ∈ E, e.length ≤ 1024) (h6 : ∀ v ∈ s, v.oneCell' = true) (H : Holds w0 w (blk p (.cells (ringCells s h E.length place) 155 (0, 0)) • slotsHP s h E • F)) : Holds w0 w (RingRep p E place • F) :=
  Holds.mk_ex_sep (s, h) (Holds.deep (Holds.mk_fact ⟨h1, h2, h3, h4, h5, h6⟩ H.deep))

theorem ring_new_ret (H : Holds w0 w F) : Ret Tryz.prog 41 #[] w fun v w' => ∃ p, v = .pointer (some ⟨p, 0, none⟩) ∧ Holds w0 w' (RingRep p [] 0 • F) := by
  refine ret_enter Tryz.func41 rfl Tryz.ntmps41 (Nat.le_of_ble_eq_true rfl) ?_
  dsimp only [slots0, Nat.reduceAdd]
  refine wc_seq ?_
  refine wc_region ?_
  refine wl_val (r_assign rfl) (ltn rfl) ?_
  refine wl_nil ?_
  refine wq_seq ?_
  refine wc_seq ?_
  refine wc_region ?_
  refine wl_val (r_build (pl := #[(0, 1), (1, 60), (61, 1), (62, 1), (63, 1)]) (ringCells (List.replicate 60 (.slice none 0 0)) 0 0 0) Tryz.underlying155 Tryz.zeroValue155 (fun w => by kernel_rfl) rfl (by kernel_rfl)) (ltn rfl) ?_
  refine wl_eff (e_box H rfl) (ltn rfl) ?_
  rintro _ w1 ⟨b1, rfl, H1⟩
  refine wl_val (r_assign rfl) (ltn rfl) ?_
  refine wl_nil ?_
  refine wq_seq ?_
  refine wc_ret ?_
  refine wq_end1 (.inl rfl) Tryz.results41 rfl ?_
  refine ⟨b1, rfl, Holds.mk_ring (s := List.replicate 60 (.slice none 0 0)) (h := 0) (by simp) (by omega) (by simp) (.inr rfl) (by simp) (by intro v hv; rw [List.eq_of_mem_replicate hv]; rfl) ?_⟩
  exact Holds.swap (Holds.mk_know (fun I i hi => by simp at hi) H1)
theorem ring_none_ret (t : TypeId) {cs : Array Value} {fr : Nat × Nat} {m : Bool} (hb : w.heap[p]? = some (.cells cs t fr)) (h0 : cs[0]? = some (.bool m)) :
    Ret Tryz.prog 135 #[.pointer (some ⟨p, 0, none⟩)] w fun v w' => v = .bool (!m) ∧ w = w' := by
  refine ret_enter Tryz.func135 rfl Tryz.ntmps135 (Nat.le_of_ble_eq_true rfl) ?_
  dsimp only [slots0, Nat.reduceAdd]
  refine wc_seq ?_
  refine wc_region ?_
  refine wl_val (r_assign rfl) (ltn rfl) ?_
  refine wl_nil ?_
  refine wq_seq ?_
  refine wc_seq ?_
  refine wc_region ?_
  refine wl_val (r_move rfl) (ltn rfl) ?_
  refine wl_val (r_ptr_nil Tryz.underlying58 rfl rfl) (ltn rfl) ?_
  refine wl_split rfl (ltn rfl) (fun h => by exfalso; (try simp only [cmpS] at h); simp at h) (fun h1 => ?_)
  (try simp only [cmpS] at h1)
  refine wl_yes rfl rfl ?_
  refine wl_val (r_move rfl) (ltn rfl) ?_
  refine wl_yes rfl rfl ?_
  refine wl_val (r_nil rfl) (ltn rfl) ?_
  refine wl_yes rfl rfl ?_
  refine wl_val (r_fieldA 0 Tryz.underlying155 rfl rfl Tryz.sizeOf4 (by decide) rfl (by first | exact Nat.zero_add _ | rfl)) (ltn rfl) ?_
  refine wl_yes rfl rfl ?_
  refine wl_val (r_load (plain_of Tryz.underlying4 rfl) rfl (cell_of_blk hb h0)) (ltn rfl) ?_
  refine wl_yes rfl rfl ?_
  refine wl_val (r_not rfl) (ltn rfl) ?_
  refine wl_val (r_pick_f rfl rfl) (ltn rfl) ?_
  refine wl_val (r_assign rfl) (ltn rfl) ?_
  refine wl_nil ?_
  refine wq_seq ?_
  refine wc_ret ?_
  refine wq_end1 (.inl rfl) Tryz.results135 rfl ?_
  exact ⟨rfl, rfl⟩
theorem Holds.slots_rd {s : List Value} {h i : Nat} (H : Holds w0 w (slotsHP s h E • F)) (hi : i < E.length) : RdI w .i32 (s.getD ((h + i) % 60) undef) (E.getD i []) := let ⟨I, k, hI⟩ := H.of_know; (k i hi).rd hI

theorem ring_at_ret {s : List Value} {h n m : Nat} {t : TypeId} {fr : Nat × Nat} {k : Nat} (hs : s.length = 60) (hh : h < 60) (hk : k < 60) (hb : w.heap[p]? = some (.cells (ringCells s h n m) t fr)) :
    Ret Tryz.prog 137 #[.pointer (some ⟨p, 0, none⟩), .int .i64 k] w fun v w' => v = s.getD ((h + k) % 60) undef ∧ Drew w w' := by
  refine ret_enter Tryz.func137 rfl Tryz.ntmps137 (Nat.le_of_ble_eq_true rfl) ?_
  dsimp only [slots0, Nat.reduceAdd]
  refine wc_seq ?_
  refine wc_region ?_
  refine wl_val (r_assign rfl) (ltn rfl) ?_
  refine wl_nil ?_
  refine wq_seq ?_
  refine wc_seq ?_
  refine wd_begin (n := 13) [0, 1, 2, 3, 4, 5, 6, 7, 8, 9, 10, 11, 12] (fun W => W.heap = w.heap) (by kernel_rfl) (by kernel_rfl) rfl ?_
  have hS0 : (fun W => W.heap = w.heap) (w.drew) := rfl
  refine wd_takeT 0 rfl (by kernel_rfl) (by kernel_rfl) hS0 (fun _ => r_move rfl) (ltn rfl) ?_
  refine wd_takeT 1 rfl (by kernel_rfl) (by kernel_rfl) hS0 (fun _ => r_move rfl) (ltn rfl) ?_
  refine wd_takeT 2 rfl (by kernel_rfl) (by kernel_rfl) hS0 (fun _ => r_nil rfl) (ltn rfl) ?_
  refine wd_takeT 3 rfl (by kernel_rfl) (by kernel_rfl) hS0 (fun _ => r_fieldA 61 Tryz.underlying155 rfl rfl Tryz.sizeOf3 (by decide) rfl (by first | exact Nat.zero_add _ | rfl)) (ltn rfl) ?_
  refine wd_take 4 rfl (by kernel_rfl) (by kernel_rfl) hS0 (by decide) (fun W hW => r_load (plain_of Tryz.underlying3 rfl) rfl (cell_of_blk (by rw [hW]; exact hb) (ring_head hs))) (ltn rfl) ?_
  refine wd_takeT 5 rfl (by kernel_rfl) (by kernel_rfl) hS0 (fun _ => r_move rfl) (ltn rfl) ?_
  refine wd_takeT 6 rfl (by kernel_rfl) (by kernel_rfl) hS0 (fun _ => r_add rfl rfl (by omega)) (ltn rfl) ?_
  refine wd_takeT 7 rfl (by kernel_rfl) (by kernel_rfl) hS0 (fun _ => r_rem rfl rfl (by omega) (by  omega)) (ltn rfl) ?_
  refine wd_takeT 8 rfl (by kernel_rfl) (by kernel_rfl) hS0 (fun _ => r_nil rfl) (ltn rfl) ?_
  refine wd_takeT 9 rfl (by kernel_rfl) (by kernel_rfl) hS0 (fun _ => r_fieldA 1 Tryz.underlying155 rfl rfl Tryz.sizeOf153 (by decide) rfl (by first | exact Nat.zero_add _ | rfl)) (ltn rfl) ?_
  refine wd_takeT 10 rfl (by kernel_rfl) (by kernel_rfl) hS0 (fun _ => r_index_arr Tryz.underlying153 Tryz.sizeOf22 rfl rfl (by omega)) (ltn rfl) ?_
  refine wd_take 11 rfl (by kernel_rfl) (by kernel_rfl) hS0 (by decide) (fun W hW => r_load (plain_of Tryz.underlying22 rfl) rfl (cell_of_blk (by rw [hW]; exact hb) (by rw [show (1 + (((h : Int) + (k : Int)) % 60).toNat * 1) = 1 + (h + k) % 60 from by omega]; exact ring_slot hs (by omega)))) (ltn rfl) ?_
  refine wd_takeT 12 rfl (by kernel_rfl) (by kernel_rfl) hS0 (fun _ => r_assign rfl) (ltn rfl) ?_
  refine wd_done (by kernel_rfl) ?_
  refine wq_seq ?_
  refine wc_ret ?_
  refine wq_end1 (.inl rfl) Tryz.results137 rfl ?_
  exact ⟨rfl, ⟨1, rfl⟩⟩

theorem ring_len_ret (H : Holds w0 w (RingRep p E place • F)) : Ret Tryz.prog 80 #[.pointer (some ⟨p, 0, none⟩)] w fun v w' => v = .int .i64 E.length ∧ w = w' := by
  obtain ⟨s, h, hs, hh, hE, hp, hm, ho, H1⟩ := H.ring
  have hb := H1.get.2
  refine ret_enter Tryz.func80 rfl Tryz.ntmps80 (Nat.le_of_ble_eq_true rfl) ?_
  dsimp only [slots0, Nat.reduceAdd]
  refine wc_seq ?_
  refine wc_region ?_
  refine wl_val (r_assign rfl) (ltn rfl) ?_
  refine wl_nil ?_
  refine wq_seq ?_
  refine wc_seq ?_
  refine wc_seq ?_
  refine wc_region ?_
  refine wl_val (r_move rfl) (ltn rfl) ?_
  refine wl_eff (e_call (r_call rfl Tryz.func135 rfl rfl) (ring_none_ret _ hb ring_0)) (ltn rfl) ?_
  rintro _ _ ⟨rfl, rfl⟩
  refine wl_nil ?_
  refine wq_seq ?_
  refine wc_cond_f rfl ?_
  refine wc_skip ?_
  refine wq_seq ?_
  refine wc_seq ?_
  refine wc_region ?_
  refine wl_val (r_move rfl) (ltn rfl) ?_
  refine wl_val (r_nil rfl) (ltn rfl) ?_
  refine wl_val (r_fieldA 62 Tryz.underlying155 rfl rfl Tryz.sizeOf3 (by decide) rfl (by first | exact Nat.zero_add _ | rfl)) (ltn rfl) ?_
  refine wl_val (r_load (plain_of Tryz.underlying3 rfl) rfl (cell_of_blk hb (ring_many hs))) (ltn rfl) ?_
  refine wl_val (r_assign rfl) (ltn rfl) ?_
  refine wl_nil ?_
  refine wq_seq ?_
  refine wc_ret ?_
  refine wq_end1 (.inl rfl) Tryz.results80 rfl ?_
  exact ⟨rfl, rfl⟩

theorem set_one {s : List Value} {u : Value} {i : Nat} (h : ∀ v ∈ s, v.oneCell' = true) (hu : u.oneCell' = true) : ∀ v ∈ s.set i u, v.oneCell' = true := by
  intro v hv
  rcases List.mem_or_eq_of_mem_set hv with hv | rfl
  · exact h v hv
  · exact hu
theorem slots_push {I : Hp} {s : List Value} {h : Nat} {l : List Int} {v : Value} (hs : s.length = 60) (hh : h < 60) (hE : E.length ≤ 60) (hS : Slots I s h E) (hv : ImmI I .i32 v l) :
    Slots I (s.set ((h + 59) % 60) v) ((h + 59) % 60) ((l :: E).take 60) := by
  intro i hi
  have hi60 : i < 60 ∧ i < E.length + 1 := by simp at hi; omega
  rw [List.getD_eq_getElem?_getD (l := (l :: E).take 60), List.getElem?_take, if_pos (by omega)]
  cases i with
  | zero =>
    have e : ((h + 59) % 60 + 0) % 60 = (h + 59) % 60 := by omega
    rw [e, List.getD_eq_getElem?_getD, List.getElem?_set_self (by omega)]
    exact hv
  | succ i =>
    have e : ((h + 59) % 60 + (i + 1)) % 60 = (h + i) % 60 := by omega
    have hne : ¬ (h + 59) % 60 = (h + i) % 60 := by omega
    rw [e, List.getD_eq_getElem?_getD, List.getElem?_set_ne hne, ← List.getD_eq_getElem?_getD]
    have := hS i (by omega)
    simpa [List.getD_eq_getElem?_getD] using this

theorem ring_push_ret {v : Value} {l : List Int} (H : Holds w0 w (RingRep p E place • F)) (hr : FRdI w0 F .i32 v l) (hl : l.length ≤ 1024) :
    Ret Tryz.prog 166 #[.pointer (some ⟨p, 0, none⟩), v] w fun _ w' => Holds w0 w' (RingRep p ((l :: E).take 60) 0 • F) := by
  obtain ⟨s, h, hs, hh, hE, hp, hm, ho, H⟩ := H.ring
  have hh' : (h + 59) % 60 < 60 := by omega
  refine ret_enter Tryz.func166 rfl Tryz.ntmps166 (Nat.le_of_ble_eq_true rfl) ?_
  dsimp only [slots0, Nat.reduceAdd]
  refine wc_seq ?_
  refine wc_region ?_
  refine wl_val (r_move rfl) (ltn rfl) ?_
  refine wl_val (r_move rfl) (ltn rfl) ?_
  refine wl_val (r_nil rfl) (ltn rfl) ?_
  refine wl_val (r_fieldA 61 Tryz.underlying155 rfl rfl Tryz.sizeOf3 (by decide) rfl (by first | exact Nat.zero_add _ | rfl)) (ltn rfl) ?_
  refine wl_val (r_load (plain_of Tryz.underlying3 rfl) rfl (cell_of_blk H.get.2 (ring_head hs))) (ltn rfl) ?_
  refine wl_val (r_add rfl rfl (by omega)) (ltn rfl) ?_
  refine wl_val (r_sub rfl rfl (by omega)) (ltn rfl) ?_
  refine wl_val (r_rem rfl rfl (by omega) (by  omega)) (ltn rfl) ?_
  refine wl_val (r_nil rfl) (ltn rfl) ?_
  refine wl_val (r_fieldA 61 Tryz.underlying155 rfl rfl Tryz.sizeOf3 (by decide) rfl (by first | exact Nat.zero_add _ | rfl)) (ltn rfl) ?_
  refine wl_eff0 (e_store H Tryz.sizeOf3 rfl rfl rfl (by rw [ring_size hs]; decide)) ?_
  rintro _ w1 H1
  rw [show (((h : Int) + 60 - 1) % 60) = (((h + 59) % 60 : Nat) : Int) from by omega, ring_set_head hs] at H1
  refine wl_nil ?_
  refine wq_seq ?_
  refine wc_seq ?_
  refine wd_begin (n := 11) [0, 1, 2, 3, 4, 5, 6, 7, 8, 9, 10] (fun W => W.heap[p]? = some (.cells (ringCells s ((h + 59) % 60) E.length place) 155 (0, 0))) (by kernel_rfl) (by kernel_rfl) rfl ?_
  have hS0 : (fun W => W.heap[p]? = some (.cells (ringCells s ((h + 59) % 60) E.length place) 155 (0, 0))) (w1.drew) := H1.get.2
  have H1d := H1.drew
  refine wd_takeT 0 rfl (by kernel_rfl) (by kernel_rfl) hS0 (fun _ => r_move rfl) (ltn rfl) ?_
  refine wd_takeT 1 rfl (by kernel_rfl) (by kernel_rfl) hS0 (fun _ => r_move rfl) (ltn rfl) ?_
  refine wd_takeT 2 rfl (by kernel_rfl) (by kernel_rfl) hS0 (fun _ => r_nil rfl) (ltn rfl) ?_
  refine wd_takeT 3 rfl (by kernel_rfl) (by kernel_rfl) hS0 (fun _ => r_fieldA 61 Tryz.underlying155 rfl rfl Tryz.sizeOf3 (by decide) rfl (by first | exact Nat.zero_add _ | rfl)) (ltn rfl) ?_
  refine wd_take 4 rfl (by kernel_rfl) (by kernel_rfl) hS0 (by decide) (fun W hW => r_load (plain_of Tryz.underlying3 rfl) rfl (cell_of_blk hW (ring_head hs))) (ltn rfl) ?_
  refine wd_takeT 5 rfl (by kernel_rfl) (by kernel_rfl) hS0 (fun _ => r_move rfl) (ltn rfl) ?_
  refine wd_takeT 7 rfl (by kernel_rfl) (by kernel_rfl) hS0 (fun _ => r_nil rfl) (ltn rfl) ?_
  refine wd_takeT 8 rfl (by kernel_rfl) (by kernel_rfl) hS0 (fun _ => r_fieldA 1 Tryz.underlying155 rfl rfl Tryz.sizeOf153 (by decide) rfl (by first | exact Nat.zero_add _ | rfl)) (ltn rfl) ?_
  refine wd_eff 6 rfl (by kernel_rfl) (e_call (r_call rfl Tryz.func136 rfl rfl) (clone_ret H1d hr.under.under (by omega))) (ltn rfl) ?_
  rintro u w2 H2
  have hS2 : (fun W => W.heap[p]? = some (.cells (ringCells s ((h + 59) % 60) E.length place) 155 (0, 0))) w2 := H2.swap.get.2
  refine keepS hS2 ?_
  refine wd_takeT 9 rfl (by kernel_rfl) (by kernel_rfl) hS2 (fun _ => r_index_arr Tryz.underlying153 Tryz.sizeOf22 rfl rfl (by omega)) (ltn rfl) ?_
  refine wd_eff0 10 rfl (by kernel_rfl) (e_store H2.swap Tryz.sizeOf22 rfl rfl H2.row_rd.one (by rw [ring_size hs]; omega)) ?_
  rintro _ w3 H3
  rw [show (1 + ((((h + 59) % 60 : Nat) : Int)).toNat * 1) = 1 + (h + 59) % 60 from by omega, ring_set_slot hs hh'] at H3
  have hs' : (s.set ((h + 59) % 60) u).length = 60 := by simp [hs]
  have ho' := set_one ho (u := u) (i := (h + 59) % 60) H2.row_rd.one
  refine keepE (by kernel_rfl) ?_
  refine wd_done (by kernel_rfl) ?_
  refine wq_seq ?_
  refine wc_seq ?_
  refine wc_region ?_
  refine wl_val (r_move rfl) (ltn rfl) ?_
  refine wl_val (r_move rfl) (ltn rfl) ?_
  refine wl_val (r_nil rfl) (ltn rfl) ?_
  refine wl_val (r_fieldA 62 Tryz.underlying155 rfl rfl Tryz.sizeOf3 (by decide) rfl (by first | exact Nat.zero_add _ | rfl)) (ltn rfl) ?_
  refine wl_val (r_load (plain_of Tryz.underlying3 rfl) rfl (cell_of_blk H3.get.2 (ring_many hs'))) (ltn rfl) ?_
  refine wl_val (r_add rfl rfl (by omega)) (ltn rfl) ?_
  refine wl_val (r_min rfl rfl) (ltn rfl) ?_
  refine wl_val (r_nil rfl) (ltn rfl) ?_
  refine wl_val (r_fieldA 62 Tryz.underlying155 rfl rfl Tryz.sizeOf3 (by decide) rfl (by first | exact Nat.zero_add _ | rfl)) (ltn rfl) ?_
  refine wl_eff0 (e_store H3 Tryz.sizeOf3 rfl rfl rfl (by rw [ring_size hs']; decide)) ?_
  rintro _ w4 H4
  rw [show min ((E.length : Int) + 1) 60 = ((min (E.length + 1) 60 : Nat) : Int) from by omega, ring_set_many hs'] at H4
  refine wl_nil ?_
  refine wq_seq ?_
  refine wc_region ?_
  refine wl_val (r_move rfl) (ltn rfl) ?_
  refine wl_val (r_nil rfl) (ltn rfl) ?_
  refine wl_val (r_fieldA 63 Tryz.underlying155 rfl rfl Tryz.sizeOf3 (by decide) rfl (by first | exact Nat.zero_add _ | rfl)) (ltn rfl) ?_
  refine wl_eff0 (e_store H4 Tryz.sizeOf3 rfl rfl rfl (by rw [ring_size hs']; decide)) ?_
  rintro _ w5 H5
  rw [show (Value.int .i64 0) = .int .i64 ((0 : Nat) : Int) from rfl, ring_set_place hs'] at H5
  refine wl_nil ?_
  refine wq_end0 (.inr rfl) Tryz.results166 ?_
  have hlen : ((l :: E).take 60).length = min (E.length + 1) 60 := by simp; omega
  refine Holds.mk_ring hs' hh' (by omega) (.inr rfl) ?_ ho' ?_
  · intro e he
    rcases List.mem_cons.1 (List.mem_of_mem_take he) with rfl | he
    · exact hl
    · exact hm e he
  · rw [hlen]
    exact (H5.swap.freezeI.rot.ent (know_two (fun I a b => slots_push hs hh hE a b) _)).swap
end
end Go.Proofs.YtgmpclifphbjkaaGreatDoor
end
