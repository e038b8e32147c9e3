import Derived.Test.YtgmpclifphbjkaaGreatDoorProg
import Derived.Test.YtgmpclifphbjkaaGreatDoorZ3
import Derived.Laws.OwnMore
import Derived.Laws.CopyRow
import Derived.Laws.IdiomCopy
import Derived.Laws.ResultCell
import Derived.Laws.Rows
import Derived.Laws.IdiomStrings
/- Texts of mine, joined: Slices More Buf. -/
section
/- Contracts of the library's slices functions at []rune. -/
set_option linter.unusedSimpArgs false
set_option linter.unusedVariables false
namespace Go.Proofs.YtgmpclifphbjkaaGreatDoor
open Go.RowKit

theorem info_i32 : (Tryz.prog.info? 21).map (fun i => (i.zero, i.size, i.bytes)) = some (some (.int .i32 0), 1, 4) := by kernel_rfl

/-- A copy in memory of its own. -/
theorem clone_ret {w0 w : World} {F : HP} {v : Value} {l : List Int} (H : Holds w0 w F) (hr : FRdI w0 F .i32 v l) (hb : l.length * 4 ≤ 140737488355328) :
    Ret Tryz.prog 136 #[v] w fun v' w' => Holds w0 w' (RowI 21 .i32 v' l • F) := by
  obtain ⟨a, c, rfl, h1, h2, h3⟩ := (hr w H).open
  refine ret_enter Tryz.func136 rfl Tryz.ntmps136 (Nat.le_of_ble_eq_true rfl) ?_
  dsimp only [slots0, Nat.reduceAdd]
  refine wc_seq ?_
  refine wc_region ?_
  refine wl_val (r_assign rfl) (ltn rfl) ?_
  refine wl_nil ?_
  refine wq_seq ?_
  refine wc_seq ?_
  refine wc_seq ?_
  refine wc_region ?_
  refine wl_val (r_move rfl) (ltn rfl) ?_
  refine wl_val (r_slice_nil Tryz.underlying22 rfl rfl) (ltn rfl) ?_
  refine wl_nil ?_
  refine wq_seq ?_
  refine wc_cond rfl (fun h1 => ?_) (fun h1 => ?_)
  · (try simp only [cmpS] at h1)
    try (exfalso; first | contradiction | omega)
    all_goals
      
      refine wc_seq ?_
      refine wc_region ?_
      refine wl_val (r_assign rfl) (ltn rfl) ?_
      refine wl_nil ?_
      refine wq_seq ?_
      refine wc_ret ?_
      refine wq_then_ret ?_
      refine wq_end1 (.inl rfl) Tryz.results136 rfl ?_
      obtain rfl : a = none := by simpa using h1
      obtain rfl : l = [] := by
        cases l with
        | nil => rfl
        | cons x l => obtain ⟨b, o, e, _⟩ := h3 (by simp); cases e
      exact H.row_nil none
  · (try simp only [cmpS] at h1)
    try (exfalso; first | contradiction | omega)
    all_goals
      
      refine wc_skip ?_
      refine wq_seq ?_
      refine wc_seq ?_
      refine wc_region ?_
      refine wl_eff (e_lit_row (vs := []) H Tryz.underlying22 Tryz.sizeOf21 Tryz.zeroValue21 rfl rfl rfl (by decide) (by simp)) (ltn rfl) ?_
      rintro _ w1 H1
      refine wl_val (r_move rfl) (ltn rfl) ?_
      refine wl_eff (e_append_ints (l := []) H1 (hr.under _ H1) Tryz.underlying22 info_i32 rfl rfl (by simp; omega) (by simpa using hb)) (ltn rfl) ?_
      rintro _ w2 H2
      refine wl_val (r_assign rfl) (ltn rfl) ?_
      refine wl_nil ?_
      refine wq_seq ?_
      refine wc_ret ?_
      refine wq_end1 (.inl rfl) Tryz.results136 rfl ?_
      exact H2

theorem grow_ret {w0 w : World} {F : HP} {n : Int} (H : Holds w0 w F) (h0 : 0 ≤ n) (hb : n ≤ 70368744177664) :
    Ret Tryz.prog 194 #[.slice none 0 0, .int .i64 n] w fun v' w' => Holds w0 w' (RowI 21 .i32 v' [] • F) := by
  refine ret_enter Tryz.func194 rfl Tryz.ntmps194 (Nat.le_of_ble_eq_true rfl) ?_
  dsimp only [slots0, Nat.reduceAdd]
  refine wc_seq ?_
  refine wc_region ?_
  refine wl_val (r_assign rfl) (ltn rfl) ?_
  refine wl_nil ?_
  refine wq_seq ?_
  refine wc_seq ?_
  refine wc_seq ?_
  refine wc_region ?_
  refine wl_val (r_move rfl) (ltn rfl) ?_
  refine wl_val (r_lss rfl rfl) (ltn rfl) ?_
  refine wl_nil ?_
  refine wq_seq ?_
  refine wc_cond rfl (fun h => by exfalso; (try simp only [cmpS] at h); first | contradiction | omega | (simp at h <;> omega)) (fun h1 => ?_)
  (try simp only [cmpS] at h1)
  refine wc_skip ?_
  refine wq_seq ?_
  refine wc_seq ?_
  refine wc_seq ?_
  refine wc_region ?_
  refine wl_val (r_move rfl) (ltn rfl) ?_
  refine wl_val (r_move rfl) (ltn rfl) ?_
  refine wl_val (r_cap Tryz.underlying22 rfl) (ltn rfl) ?_
  refine wl_val (r_move rfl) (ltn rfl) ?_
  refine wl_val (r_len Tryz.underlying22 rfl) (ltn rfl) ?_
  refine wl_val (r_sub rfl rfl (by omega)) (ltn rfl) ?_
  refine wl_val (r_sub rfl rfl (by omega)) (ltn rfl) ?_
  refine wl_val (r_assign rfl) (ltn rfl) ?_
  refine wl_nil ?_
  refine wq_seq ?_
  refine wc_seq ?_
  refine wc_region ?_
  refine wl_val (r_move rfl) (ltn rfl) ?_
  refine wl_val (r_gtr rfl rfl) (ltn rfl) ?_
  refine wl_nil ?_
  refine wq_seq ?_
  refine wc_cond rfl (fun h2 => ?_) (fun h2 => ?_)
  · (try simp only [cmpS] at h2)
    try (exfalso; first | contradiction | omega)
    all_goals
      
      refine wc_region ?_
      refine wl_val (r_move rfl) (ltn rfl) ?_
      refine wl_val (r_move rfl) (ltn rfl) ?_
      refine wl_val (r_cap Tryz.underlying22 rfl) (ltn rfl) ?_
      refine wl_val (r_slice Tryz.underlying22 Tryz.sizeOf21 rfl rfl rfl (by omega)) (ltn rfl) ?_
      refine wl_val (r_move rfl) (ltn rfl) ?_
      refine wl_eff (e_append_zeros H Tryz.underlying22 Tryz.underlying3 info_i32 rfl rfl (by omega) (by omega) (by omega)) (ltn rfl) ?_
      rintro _ w1 ⟨g, c, cur, rfl, hc1, hc2, hc3, H1⟩
      refine wl_val (r_move rfl) (ltn rfl) ?_
      refine wl_val (r_len Tryz.underlying22 rfl) (ltn rfl) ?_
      refine wl_val (r_slice Tryz.underlying22 Tryz.sizeOf21 rfl rfl rfl (by omega)) (ltn rfl) ?_
      refine wl_val (r_assign rfl) (ltn rfl) ?_
      refine wl_nil ?_
      refine wq_seq ?_
      refine wc_seq ?_
      refine wc_region ?_
      refine wl_val (r_move rfl) (ltn rfl) ?_
      refine wl_val (r_assign rfl) (ltn rfl) ?_
      refine wl_nil ?_
      refine wq_seq ?_
      refine wc_ret ?_
      refine wq_end1 (.inl rfl) Tryz.results194 rfl ?_
      exact H1.row_mk (o := 0) (by simp) (cutV_zero 1 0 g 0 _ c) (by simp) hc2 (by simpa using hc3) (by simp)
  · (try simp only [cmpS] at h2)
    try (exfalso; first | contradiction | omega)
    all_goals
      
      refine wc_skip ?_
      refine wq_seq ?_
      refine wc_seq ?_
      refine wc_region ?_
      refine wl_val (r_move rfl) (ltn rfl) ?_
      refine wl_val (r_assign rfl) (ltn rfl) ?_
      refine wl_nil ?_
      refine wq_seq ?_
      refine wc_ret ?_
      refine wq_end1 (.inl rfl) Tryz.results194 rfl ?_
      exact H.row_nil none

theorem concat_ret {w0 w : World} {F : HP} {v : Value} {vs : List Value} {ls : List (List Int)} (H : Holds w0 w F) (hv : FRd w0 F 1 v ls.length vs) (hls : ∀ k, k < ls.length → FRdI w0 F .i32 (vs.getD k undef) (ls.getD k [])) (hb : ls.flatten.length * 4 ≤ 140737488355328) :
    Ret Tryz.prog 167 #[v] w fun v' w' => Holds w0 w' (RowI 21 .i32 v' ls.flatten • F) := by
  obtain ⟨_, a, c, rfl, hc1, hc2, _⟩ := hv w H
  refine ret_enter Tryz.func167 rfl Tryz.ntmps167 (Nat.le_of_ble_eq_true rfl) ?_
  dsimp only [slots0, Nat.reduceAdd]
  refine wc_seq ?_
  refine wc_region ?_
  refine wl_val (r_assign rfl) (ltn rfl) ?_
  refine wl_nil ?_
  refine wq_seq ?_
  refine wc_seq ?_
  refine wc_region ?_
  refine wl_val (r_assign rfl) (ltn rfl) ?_
  refine wl_nil ?_
  refine wq_seq ?_
  refine wc_seq ?_
  refine wc_seq ?_
  refine wc_region ?_
  refine wl_val (r_move rfl) (ltn rfl) ?_
  refine wl_val (r_len Tryz.underlying43 rfl) (ltn rfl) ?_
  refine wl_val (r_move rfl) (ltn rfl) ?_
  refine wl_nil ?_
  refine wq_seq ?_
  refine wc_block ?_
  refine wc_loop [(0, _), (9, _), (10, _)] (fun (k : Nat) => [(3, .int .i64 ((ls.take k).flatten.length : Int)), (11, .int .i64 (k : Int))]) (fun (k : Nat) W => k ≤ ls.length ∧ Holds w0 W F) (fun (k : Nat) => ls.length - k) (0) (Sub.cons rfl (Sub.cons rfl (Sub.cons rfl (Sub.nil _)))) (Sub.cons' rfl (by simp) (Sub.cons' rfl (rfl) (Sub.nil _))) ⟨by omega, H⟩ ?_
  rintro k w1 ⟨hk, HL⟩
  dsimp only [List.cons_append, List.nil_append]
  refine wc_seq ?_
  refine wc_region ?_
  refine wl_val (r_lss rfl rfl) (ltn rfl) ?_
  refine wl_nil ?_
  refine wq_seq ?_
  refine wc_seq ?_
  refine wc_cond rfl (fun h1 => ?_) (fun h1 => ?_)
  · (try simp only [cmpS] at h1)
    try (exfalso; first | contradiction | omega)
    all_goals
      
      refine wc_skip ?_
      refine wq_seq ?_
      refine wc_seq ?_
      refine wc_block ?_
      refine wc_seq ?_
      have hk1 : k < ls.length := by omega
      obtain ⟨b, o, rfl, hc⟩ := hv.cell HL (j := k) (by omega)
      obtain ⟨ak, ck, ek, hk2, hk3, _⟩ := (hls k hk1 _ HL).open
      rw [ek] at hc
      have hfl := flat_le ls (k + 1)
      rw [flat_succ ls hk1, List.length_append] at hfl
      refine wc_region ?_
      refine wl_val (r_index Tryz.underlying43 Tryz.sizeOf22 rfl rfl (by omega)) (ltn rfl) ?_
      refine wl_val (r_load (plain_of Tryz.underlying22 rfl) rfl (by rw [show ((k : Int).toNat * 1) = k from by omega]; exact hc)) (ltn rfl) ?_
      refine wl_val (r_assign rfl) (ltn rfl) ?_
      refine wl_nil ?_
      refine wq_seq ?_
      refine wc_seq ?_
      refine wc_region ?_
      refine wl_val (r_move rfl) (ltn rfl) ?_
      refine wl_val (r_move rfl) (ltn rfl) ?_
      refine wl_val (r_len Tryz.underlying22 rfl) (ltn rfl) ?_
      refine wl_val (r_add rfl rfl (by omega)) (ltn rfl) ?_
      refine wl_val (r_assign rfl) (ltn rfl) ?_
      refine wl_nil ?_
      refine wq_seq ?_
      refine wc_seq ?_
      refine wc_region ?_
      refine wl_val (r_move rfl) (ltn rfl) ?_
      refine wl_val (r_lss rfl rfl) (ltn rfl) ?_
      refine wl_nil ?_
      refine wq_seq ?_
      refine wc_cond rfl (fun h => by exfalso; (try simp only [cmpS] at h); first | contradiction | omega | (simp at h <;> omega)) (fun h2 => ?_)
      (try simp only [cmpS] at h2)
      refine wc_skip ?_
      refine wq_block_normal ?_
      refine wq_seq ?_
      refine wc_region ?_
      refine wl_val (r_add rfl rfl (by omega)) (ltn rfl) ?_
      refine wl_val (r_move rfl) (ltn rfl) ?_
      refine wl_nil ?_
      refine wq_round (k + 1) ?_ ?_ ?_ ?_
      · exact (Sub.cons' rfl (by rw [flat_succ ls hk1, List.length_append, Int.natCast_add]) (Sub.cons rfl (Sub.nil _)))
      · exact (Sub.cons rfl (Sub.cons rfl (Sub.cons rfl (Sub.nil _))))
      · (try dsimp only)
        first | done | exact ⟨by omega, HL⟩
      · (try dsimp only); omega
  · (try simp only [cmpS] at h1)
    try (exfalso; first | contradiction | omega)
    all_goals
      
      refine wc_exit ?_
      refine wq_then_exit ?_
      refine wq_then_exit ?_
      refine wq_block_hit ?_
      refine wq_seq ?_
      refine wc_seq ?_
      refine wc_region ?_
      refine wl_val (r_move rfl) (ltn rfl) ?_
      refine wl_eff (e_call (r_call rfl Tryz.func194 rfl rfl) (grow_ret HL (by omega) (by have := flat_le ls k; omega))) (ltn rfl) ?_
      rintro vg w2 H2
      refine wl_val (r_assign rfl) (ltn rfl) ?_
      refine wl_nil ?_
      refine wq_seq ?_
      refine wc_seq ?_
      refine wc_seq ?_
      refine wc_region ?_
      refine wl_val (r_move rfl) (ltn rfl) ?_
      refine wl_val (r_len Tryz.underlying43 rfl) (ltn rfl) ?_
      refine wl_val (r_move rfl) (ltn rfl) ?_
      refine wl_nil ?_
      refine wq_seq ?_
      refine wc_block ?_
      refine wc_loop [(25, _), (26, _)] (fun (⟨k, u⟩ : Nat × Value) => [(6, u), (27, .int .i64 (k : Int))]) (fun (⟨k, u⟩ : Nat × Value) W => k ≤ ls.length ∧ Holds w0 W (RowI 21 .i32 u (ls.take k).flatten • F)) (fun (⟨k, u⟩ : Nat × Value) => ls.length - k) ((0, vg)) (Sub.cons rfl (Sub.cons rfl (Sub.nil _))) (Sub.cons rfl (Sub.cons rfl (Sub.nil _))) ⟨by omega, H2⟩ ?_
      rintro ⟨k, u⟩ w3 ⟨hk, HM⟩
      dsimp only [List.cons_append, List.nil_append]
      refine wc_seq ?_
      refine wc_region ?_
      refine wl_val (r_lss rfl rfl) (ltn rfl) ?_
      refine wl_nil ?_
      refine wq_seq ?_
      refine wc_seq ?_
      refine wc_cond rfl (fun h3 => ?_) (fun h3 => ?_)
      · (try simp only [cmpS] at h3)
        try (exfalso; first | contradiction | omega)
        all_goals
          
          refine wc_skip ?_
          refine wq_seq ?_
          refine wc_seq ?_
          refine wc_block ?_
          refine wc_seq ?_
          have hk1 : k < ls.length := by omega
          obtain ⟨b, o, rfl, hc⟩ := hv.cell HM.right (j := k) (by omega)
          have hrk := hls k hk1
          have hfl := flat_le ls (k + 1)
          rw [flat_succ ls hk1, List.length_append] at hfl
          refine wc_region ?_
          refine wl_val (r_index Tryz.underlying43 Tryz.sizeOf22 rfl rfl (by omega)) (ltn rfl) ?_
          refine wl_val (r_load (plain_of Tryz.underlying22 rfl) rfl (by rw [show ((k : Int).toNat * 1) = k from by omega]; exact hc)) (ltn rfl) ?_
          refine wl_val (r_assign rfl) (ltn rfl) ?_
          refine wl_nil ?_
          refine wq_seq ?_
          refine wc_region ?_
          refine wl_val (r_move rfl) (ltn rfl) ?_
          refine wl_val (r_move rfl) (ltn rfl) ?_
          refine wl_eff (e_append_ints HM (hrk _ HM.right) Tryz.underlying22 info_i32 rfl rfl (by omega) (by omega)) (ltn rfl) ?_
          rintro va w4 H4
          refine wl_val (r_assign rfl) (ltn rfl) ?_
          refine wl_nil ?_
          refine wq_block_normal ?_
          refine wq_seq ?_
          refine wc_region ?_
          refine wl_val (r_add rfl rfl (by omega)) (ltn rfl) ?_
          refine wl_val (r_move rfl) (ltn rfl) ?_
          refine wl_nil ?_
          refine wq_round ((k + 1, va)) ?_ ?_ ?_ ?_
          · exact (Sub.cons rfl (Sub.cons rfl (Sub.nil _)))
          · exact (Sub.cons rfl (Sub.cons rfl (Sub.nil _)))
          · (try dsimp only)
            first | done | exact ⟨by omega, by rw [flat_succ ls hk1]; exact H4⟩
          · (try dsimp only); omega
      · (try simp only [cmpS] at h3)
        try (exfalso; first | contradiction | omega)
        all_goals
          
          refine wc_exit ?_
          refine wq_then_exit ?_
          refine wq_then_exit ?_
          refine wq_block_hit ?_
          refine wq_seq ?_
          refine wc_seq ?_
          refine wc_region ?_
          refine wl_val (r_move rfl) (ltn rfl) ?_
          refine wl_val (r_assign rfl) (ltn rfl) ?_
          refine wl_nil ?_
          refine wq_seq ?_
          refine wc_ret ?_
          refine wq_end1 (.inl rfl) Tryz.results167 rfl ?_
          rw [List.take_of_length_le (by omega)] at HM; exact HM

/-- Two of them. -/
theorem concat2_ret {w0 w : World} {F : HP} {b : Nat} {T : TypeId} {u1 u2 : Value} {l1 l2 : List Int} (H : Holds w0 w (blk b (.cells #[u1, u2] T (0, 0)) • F)) (h1 : FRdI w0 (blk b (.cells #[u1, u2] T (0, 0)) • F) .i32 u1 l1) (h2 : FRdI w0 (blk b (.cells #[u1, u2] T (0, 0)) • F) .i32 u2 l2)
    (hb : (l1.length + l2.length) * 4 ≤ 140737488355328) :
    Ret Tryz.prog 167 #[.slice (some ⟨b, 0, none⟩) 2 2] w fun v' w' => Holds w0 w' (RowI 21 .i32 v' (l1 ++ l2) • blk b (.cells #[u1, u2] T (0, 0)) • F) := by
  have := concat_ret (ls := [l1, l2]) (vs := [u1, u2]) (v := .slice (some ⟨b, 0, none⟩) 2 2) H (fun W HW => ⟨rfl, _, 2, rfl, by simp, by decide, fun _ => ⟨b, 0, rfl, fun j hj => ?_⟩⟩) (fun k hk => ?_) (by simpa using hb)
  · simpa using this
  · refine cell_of_blk HW.get.2 ?_
    simp at hj
    match j, hj with
    | 0, _ => rfl
    | 1, _ => rfl
  · simp at hk
    match k, hk with
    | 0, _ => exact h1
    | 1, _ => exact h2
end Go.Proofs.YtgmpclifphbjkaaGreatDoor
end
section
/- More operations: make, copy; results that are cells. -/
set_option linter.unusedSimpArgs false
set_option linter.unusedVariables false
namespace Go.Proofs.YtgmpclifphbjkaaGreatDoor
open Go.RowKit

section
variable {P : Program} {N : Sh} {L : List (Nat × Value)} {w0 w : World} {F : HP} {ty : TypeId}

/-- A call's end: its result stands in a block of its own. -/
theorem resC {fn : Func} {p g : Nat} {t ct : TypeId} {cs : Array Value} {fr : Nat × Nat} {d : TypeDesc} (hr : fn.results = #[.cell p t]) (hv : look L p = some (.pointer (some ⟨g, 0, none⟩)))
    (hu : P.underlying t = some d) (hd : (match d with | .struct _ | .array _ _ => true | _ => false) = true) (hi : (P.info? t).map (·.size) = some cs.size) (hg : w.heap[g]? = some (.cells cs ct fr)) : Res P fn N L w (.agg cs) := fun a ha =>
  results_cell_row (P := P) hr a.tmps w g ct cs fr d (by rw [Array.getD_eq_getD_getElem?, ha.at_ _ _ hv]; rfl) hg hu hd hi
theorem resCT {fn : Func} {p u g : Nat} {t ct : TypeId} {x : Value} {cs : Array Value} {fr : Nat × Nat} {d : TypeDesc} (hr : fn.results = #[.cell p t, .tmp u]) (hv : look L p = some (.pointer (some ⟨g, 0, none⟩))) (hx : look L u = some x)
    (hu : P.underlying t = some d) (hd : (match d with | .struct _ | .array _ _ => true | _ => false) = true) (hi : (P.info? t).map (·.size) = some cs.size) (hg : w.heap[g]? = some (.cells cs ct fr)) : Res P fn N L w (.tuple #[.agg cs, x]) := fun a ha => by
  have h1 := results_cell_tmp hr a.tmps P w
  rw [Array.getD_eq_getD_getElem?, ha.at_ _ _ hv, Array.getD_eq_getD_getElem?, ha.at_ _ _ hx] at h1
  simp only [Option.getD_some, asAddr, Sem.run_pure, Result.andThen_ok, run_loadVar_row w g ct t cs fr d hg hu hd hi] at h1
  exact h1
theorem wq_endC {fn : Func} {e : Exit} {S : Value → World → Prop} {p g : Nat} {t ct : TypeId} {cs : Array Value} {fr : Nat × Nat} {d : TypeDesc} (he : e = .ret ∨ e = .normal) (hr : fn.results = #[.cell p t]) (hv : look L p = some (.pointer (some ⟨g, 0, none⟩)))
    (hu : P.underlying t = some d) (hd : (match d with | .struct _ | .array _ _ => true | _ => false) = true) (hi : (P.info? t).map (·.size) = some cs.size) (hg : w.heap[g]? = some (.cells cs ct fr)) (h : S (.agg cs) w) (hds : N.ds = [] := by rfl) :
    WQ N (EndPost P fn S) e L w := wq_end he (resC hr hv hu hd hi hg) h hds
theorem wq_endCT {fn : Func} {e : Exit} {S : Value → World → Prop} {p u g : Nat} {t ct : TypeId} {x : Value} {cs : Array Value} {fr : Nat × Nat} {d : TypeDesc} (he : e = .ret ∨ e = .normal) (hr : fn.results = #[.cell p t, .tmp u]) (hv : look L p = some (.pointer (some ⟨g, 0, none⟩))) (hx : look L u = some x)
    (hu : P.underlying t = some d) (hd : (match d with | .struct _ | .array _ _ => true | _ => false) = true) (hi : (P.info? t).map (·.size) = some cs.size) (hg : w.heap[g]? = some (.cells cs ct fr)) (h : S (.tuple #[.agg cs, x]) w) (hds : N.ds = [] := by rfl) :
    WQ N (EndPost P fn S) e L w := wq_end he (resCT hr hv hx hu hd hi hg) h hds
def isRowD : TypeDesc → Bool
  | .struct _ => true
  | .array _ _ => true
  | _ => false
theorem plain_row {t : TypeId} {d : TypeDesc} (h : P.underlying t = some d) (hd : isRowD d = true) : plainTy P t = false := by
  unfold plainTy; rw [h]; cases d <;> simp_all [isRowD]
/-- A part of a block is read. -/
theorem r_load_part {t : TypeId} {d : TypeDesc} {b n : Nat} (o : Nat) {cs : Array Value} {xs : List Value} {et : TypeId} {fr : Nat × Nat} {x : Operand} (hu : P.underlying t = some d) (hd : isRowD d = true) (hs : ∀ w, (sizeOf t).run P w = .ok n w)
    (hn : xs.length = n) (hx : ev L x = some (.pointer (some ⟨b, o, none⟩))) (hb : w.heap[b]? = some (.cells cs et fr)) (hxs : (cs.toList.drop o).take n = xs) : Val P L (.load t x) ty w (.agg xs.toArray) w :=
  r_load_agg (by rw [hu]; rfl) (plain_row hu hd) hs hn hx (fun j u hj => cell_of_blk hb (by
    rw [← hxs, List.getElem?_take] at hj
    split at hj
    · rw [List.getElem?_drop] at hj; simpa using hj
    · cases hj))
/-- A store into a block whose cells are written out. -/
theorem e_storeL {t : TypeId} {b : Nat} (o : Nat) {l l' : List Value} {et : TypeId} {u : Value} {x y : Operand} (H : Holds w0 w (blk b (.cells l.toArray et (0, 0)) • F)) (hs : ∀ w, (sizeOf t).run P w = .ok 1 w) (hx : ev L x = some (.pointer (some ⟨b, o, none⟩))) (hy : ev L y = some u) (h1 : u.oneCell' = true)
    (ho : Nat.ble (o + 1) l.length = true) (hl : l.set o u = l') : Eff P L (.store t x y) ty w fun _ w' => Holds w0 w' (blk b (.cells l'.toArray et (0, 0)) • F) := by
  subst hl
  refine (e_store H hs hx hy h1 (by have := Nat.le_of_ble_eq_true ho; simp; omega)).mono fun v w' H' => ?_
  simpa using H'
theorem e_storePL {t : TypeId} {b n : Nat} (o : Nat) {l l' : List Value} {et : TypeId} {us : List Value} {x y : Operand} (H : Holds w0 w (blk b (.cells l.toArray et (0, 0)) • F)) (hs : ∀ w, (sizeOf t).run P w = .ok n w) (hx : ev L x = some (.pointer (some ⟨b, o, none⟩))) (hy : ev L y = some (.agg us.toArray)) (hn : us.length = n) (h1 : ∀ u ∈ us, u.oneCell' = true)
    (ho : Nat.ble (o + us.length) l.length = true) (hl : l.take o ++ us ++ l.drop (o + us.length) = l') : Eff P L (.store t x y) ty w fun _ w' => Holds w0 w' (blk b (.cells l'.toArray et (0, 0)) • F) := by
  subst hl
  subst hn
  have ho' := Nat.le_of_ble_eq_true ho
  have hst := run_storeCells_at P b o et us 0 l.toArray w H.get.2 (by simpa using ho') h1
  refine e_skip (w' := w.setRow b (l.take o ++ us ++ l.drop (o + us.length)).toArray) ?_ (H.turn rfl rfl rfl (by simp [World.setRow]) (setRow_heap _ _ _ _ _ _ H.get.2) fun k hk _ => setRow_other _ _ _ _ hk)
  intro ρ hρ d pos aft g
  simp at hst
  simp [execOp, hρ _ _ hx, hρ _ _ hy, Instr.storeAt, Instr.sureAddr, storeVar, hs, Value.cells, hst]
theorem e_allocL {t : TypeId} {z : Value} {l : List Value} (H : Holds w0 w F) (hz : ∀ w, (zeroValue t).run P w = .ok z w) (hl : z.cells = l.toArray) : Eff P L (.alloc t) ty w fun v w' => ∃ b, v = .pointer (some ⟨b, 0, none⟩) ∧ Holds w0 w' (blk b (.cells l.toArray t (0, 0)) • F) := by
  have := e_alloc (L := L) (ty := ty) H hz
  rwa [hl] at this
theorem e_boxL {t : TypeId} {v : Value} {x : Operand} {l : List Value} (H : Holds w0 w F) (hx : ev L x = some v) (hl : v.cells = l.toArray) : Eff P L (.box t x) ty w fun u w' => ∃ b, u = .pointer (some ⟨b, 0, none⟩) ∧ Holds w0 w' (blk b (.cells l.toArray t (0, 0)) • F) := by
  have := e_box (P := P) (t := t) (ty := ty) H hx
  rwa [hl] at this
theorem e_lit_ints {t e n : Nat} {k : IntKind} {ps : List (Nat × Operand)} {l : List Int} {z : Value} (H : Holds w0 w F) (ht : P.underlying t = some (.slice e)) (hs : ∀ w, (sizeOf e).run P w = .ok 1 w) (hz : ∀ w, (zeroValue e).run P w = .ok z w) (hz1 : z.cells.size = 1)
    (hp : evp L ps = some (placed 0 (l.map (Value.int k)))) (hn : l.length = n) (hn24 : n ≤ 16777216) :
    Eff P L (.buildSlice t n ps.toArray) ty w fun v w' => Holds w0 w' (RowI e k v l • F) := by
  subst hn
  exact e_lit_row H ht hs hz hz1 hp (by simp) hn24 (ints_one _ _)
theorem RdI.pos {k : IntKind} {a : Option Addr} {n c : Nat} {l : List Int} (h : RdI w k (.slice a n c) l) (hp : 0 < l.length) : ∃ b o, a = some ⟨b, o, none⟩ := by
  obtain ⟨a', c', e, _, _, hh⟩ := h.open
  cases e
  obtain ⟨b, o, e, _⟩ := hh hp
  exact ⟨b, o, e⟩
theorem RdI.at1 {k : IntKind} {b o n c : Nat} {l : List Int} {i : Int} (h : RdI w k (.slice (some ⟨b, o, none⟩) n c) l) (hi : 0 ≤ i ∧ i < l.length) : w.cell? ⟨b, o + i.toNat * 1, none⟩ = some (.int k (l.getD i.toNat 0)) := by
  obtain ⟨a', c', e, _, _, hh⟩ := h.open
  cases e
  obtain ⟨b', o', e, hc⟩ := hh (by omega)
  cases e
  rw [Nat.mul_one]
  exact hc _ (by omega)
theorem RdI.at1n {k : IntKind} {b o n c i : Nat} {l : List Int} (h : RdI w k (.slice (some ⟨b, o, none⟩) n c) l) (hi : i < l.length) : w.cell? ⟨b, o + (i : Int).toNat * 1, none⟩ = some (.int k (l.getD i 0)) := by
  have := h.at1 (i := i) (by omega)
  rwa [Int.toNat_natCast] at this ⊢

theorem Holds.rowi_nil {e : TypeId} {k : IntKind} (h : Holds w0 w F) (a : Option Addr) : Holds w0 w (RowI e k (.slice a 0 0) [] • F) := h.row_nil a
theorem RdI.posV {k : IntKind} {v : Value} {l : List Int} (h : RdI w k v l) (hp : 0 < l.length) : ∃ b o c, v = .slice (some ⟨b, o, none⟩) l.length c := by
  obtain ⟨a, c, rfl, _, _, hh⟩ := h.open
  obtain ⟨b, o, rfl, _⟩ := hh hp
  exact ⟨b, o, c, rfl⟩
theorem Rd.posV {sz n : Nat} {v : Value} {xs : List Value} (h : Rd w sz v n xs) (hp : 0 < n) : ∃ b o c, v = .slice (some ⟨b, o, none⟩) n c := by
  obtain ⟨_, a, c, rfl, _, _, hh⟩ := h
  obtain ⟨b, o, rfl, _⟩ := hh hp
  exact ⟨b, o, c, rfl⟩
theorem r_lenR {t e : TypeId} {x : Operand} {v : Value} {k : IntKind} {l : List Int} (hr : RdI w k v l) (ht : P.underlying t = some (.slice e)) (hx : ev L x = some v) {w1 : World} : Val P L (.call ⟨.builtin .len, #[x], #[t]⟩) ty w1 (.int .i64 l.length) w1 := by
  obtain ⟨a, c, rfl, _⟩ := hr.open
  exact r_len ht hx
theorem r_lenS {t e sz n : Nat} {x : Operand} {v : Value} {xs : List Value} (hr : Rd w sz v n xs) (ht : P.underlying t = some (.slice e)) (hx : ev L x = some v) {w1 : World} : Val P L (.call ⟨.builtin .len, #[x], #[t]⟩) ty w1 (.int .i64 n) w1 := by
  obtain ⟨_, a, c, rfl, _⟩ := hr
  exact r_len ht hx
theorem r_sliceS {t e s n sz : Nat} {x : Operand} {lo hi : Option Operand} {v : Value} {xs : List Value} {l h : Int} (hr : Rd w sz v n xs) (ht : P.underlying t = some (.slice e)) (hs : ∀ w, (sizeOf e).run P w = .ok s w) (hx : ev L x = some v)
    (hl : (match lo with | none => some (Value.int .i64 0) | some o => ev L o) = some (.int .i64 l)) (hh : (match hi with | none => some (Value.int .i64 n) | some o => ev L o) = some (.int .i64 h)) (h0 : 0 ≤ l ∧ l ≤ h ∧ h ≤ n) {w1 : World} :
    Val P L (.slice t x lo hi none) ty w1 (cutV s l.toNat h.toNat v) w1 := by
  obtain ⟨_, a, c, rfl, hc, _⟩ := hr
  exact r_slice ht hs hx hl hh (by omega)
theorem Rd.at0 {b o n c n' : Nat} {xs : List Value} (h : Rd w 1 (.slice (some ⟨b, o, none⟩) n c) n' xs) (hi : 0 < n') : w.cell? ⟨b, o + (0 : Int).toNat * 1, none⟩ = some (xs.getD 0 undef) := by
  obtain ⟨_, a', c', e, _, _, hh⟩ := h
  cases e
  obtain ⟨b', o', e, hc⟩ := hh (by omega)
  cases e
  exact hc 0 (by omega)
theorem RdI.at0 {k : IntKind} {b o n c : Nat} {l : List Int} (h : RdI w k (.slice (some ⟨b, o, none⟩) n c) l) (hi : 0 < l.length) : w.cell? ⟨b, o + (0 : Int).toNat * 1, none⟩ = some (.int k (l.getD 0 0)) := by
  obtain ⟨a', c', e, _, _, hh⟩ := h.open
  cases e
  obtain ⟨b', o', e, hc⟩ := hh hi
  cases e
  exact hc 0 hi
theorem Rd.pos {sz n c n' : Nat} {a : Option Addr} {xs : List Value} (h : Rd w sz (.slice a n c) n' xs) (hp : 0 < n') : ∃ b o, a = some ⟨b, o, none⟩ := by
  obtain ⟨_, a', c', e, _, _, hh⟩ := h
  cases e
  obtain ⟨b, o, e, _⟩ := hh hp
  exact ⟨b, o, e⟩
theorem Rd.at1n {b o n c i n' : Nat} {xs : List Value} (h : Rd w 1 (.slice (some ⟨b, o, none⟩) n c) n' xs) (hi : i < n') : w.cell? ⟨b, o + (i : Int).toNat * 1, none⟩ = some (xs.getD i undef) := by
  obtain ⟨_, a', c', e, _, _, hh⟩ := h
  cases e
  obtain ⟨b', o', e, hc⟩ := hh (by omega)
  cases e
  rw [Nat.mul_one, Int.toNat_natCast]
  exact hc _ (by omega)
theorem Rd.at1 {b o n c n' : Nat} {i : Int} {xs : List Value} (h : Rd w 1 (.slice (some ⟨b, o, none⟩) n c) n' xs) (hi : 0 ≤ i ∧ i < n') : w.cell? ⟨b, o + i.toNat * 1, none⟩ = some (xs.getD i.toNat undef) := by
  have := h.at1n (i := i.toNat) (by omega)
  rwa [Int.toNat_natCast] at this
/-- A cell of an element of several. -/
theorem Rd.atS {b o n c i n' sz off : Nat} {xs : List Value} (h : Rd w sz (.slice (some ⟨b, o, none⟩) n c) n' xs) (hi : i < n') (ho : off < sz) : w.cell? ⟨b, o + (i : Int).toNat * sz + off, none⟩ = some (xs.getD (i * sz + off) undef) := by
  have hlt : i * sz + off < n' * sz := Nat.lt_of_lt_of_le (by omega : i * sz + off < i * sz + sz) (by rw [← Nat.succ_mul]; exact Nat.mul_le_mul_right _ hi)
  obtain ⟨_, a', c', e, _, _, hh⟩ := h
  cases e
  obtain ⟨b', o', e, hc⟩ := hh (by omega)
  cases e
  rw [Int.toNat_natCast, Nat.add_assoc]
  exact hc _ hlt

theorem e_make_ints {t e bytes : Nat} {k kl kc : IntKind} {x y : Operand} {n : Int} (H : Holds w0 w F) (ht : P.underlying t = some (.slice e)) (hi : (P.info? e).map (fun i => (i.zero, i.size, i.bytes)) = some (some (.int k 0), 1, bytes))
    (hx : ev L x = some (.int kl n)) (hy : ev L y = some (.int kc n)) (h0 : 0 ≤ n) (hb : n.toNat * bytes ≤ 281474976710656) (h63 : n ≤ 9223372036854775807) :
    Eff P L (.makeSlice t x y) ty w fun v w' => Holds w0 w' (RowI e k v (List.replicate n.toNat 0) • F) := by
  obtain ⟨i, hi1, hi2⟩ := Option.map_eq_some_iff.1 hi
  simp only [Prod.mk.injEq] at hi2
  obtain ⟨hz1, hs1, hb1⟩ := hi2
  have hb' : (i.bytes : Int) * n ≤ 281474976710656 := by
    have h : ((i.bytes * n.toNat : Nat) : Int) ≤ 281474976710656 := by rw [hb1, Nat.mul_comm]; omega
    rw [Int.natCast_mul, Int.toNat_of_nonneg h0] at h
    exact h
  have hr := run_make (P := P) w t e i (.int k 0) ht hi1 hz1 kl kc n n h0 (Int.le_refl _) hb' h63
  refine e_val (v := .slice (some ⟨w.heap.size, 0, none⟩) n.toNat n.toNat) (w' := w.alloc (.cells (madeCells (Value.int k 0).cells (n.toNat * i.size)) e)) ?_ ?_
  · intro ρ hρ d pos aft g
    simp only [execOp, hρ _ _ hx, hρ _ _ hy]
    simp [Sem.run_bind, hr]
  · refine (H.alloc _).row_mk (o := 0) (c := n.toNat) (by simp) (by simp) (by simp) (by omega) (by simp [size_madeCells, hs1]) fun j hj => ?_
    have hj' : j < n.toNat := by simpa using hj
    rw [hs1, Nat.mul_one]
    simp [madeCells, Value.cells, hj', Nat.mod_one, List.getD_eq_getElem?_getD]

/-- The run ys stands at i. -/
def spliceL {α : Type _} (l : List α) (i : Nat) (ys : List α) : List α := l.take i ++ ys ++ l.drop (i + ys.length)
theorem spliceL_len {α : Type _} {l : List α} {i : Nat} {ys : List α} (h : i + ys.length ≤ l.length) : (spliceL l i ys).length = l.length := by simp [spliceL]; omega
theorem cutV_whole (s n c : Nat) (a : Option Addr) : cutV s 0 n (.slice a n c) = .slice a n c := by
  simp only [cutV, cutA, Nat.sub_zero, Nat.zero_mul]
  split
  · rfl
  · cases a <;> simp [Addr.add]

theorem e_copy_ints {t e ts : Nat} {k : IntKind} {x y : Operand} {v sv : Value} {l m : List Int} {i : Nat} (H : Holds w0 w (RowI e k v l • F)) (hr : RdI w k sv m) (ht : P.underlying t = some (.slice e)) (hs : (P.info? e).map (·.size) = some 1)
    (hx : ev L x = some (cutV 1 i l.length v)) (hy : ev L y = some sv) (h : i + m.length ≤ l.length) :
    Eff P L (.call ⟨.builtin .copy, #[x, y], #[t, ts]⟩) ty w fun v' w' => v' = .int .i64 m.length ∧ Holds w0 w' (RowI e k v (spliceL l i m) • F) := by
  have hlen := H.row_len
  by_cases h0 : m.length = 0
  · obtain rfl : m = [] := List.eq_nil_of_length_eq_zero h0
    obtain ⟨a, c, hv, _⟩ := (H.row_rd).form
    subst hv
    obtain ⟨a2, c2, rfl, _⟩ := hr.open
    refine e_val (v := .int .i64 0) (w' := w) (run_call (vs := [cutV 1 i l.length (.slice a l.length c), .slice a2 0 c2]) (by simp [evl, hx, hy]) fun _ => ?_) ⟨rfl, by simpa [spliceL] using H⟩
    have := run_copy_none (P := P) w t ts ty e (cutA a i c 1) a2 (l.length - i) (c - i) 0 c2 ht hs (by simp)
    simp only [builtin, Sem.run_bind]
    rw [show cutV 1 i l.length (.slice a l.length c) = .slice (cutA a i c 1) (l.length - i) (c - i) from rfl]
    simp only [List.length_nil] at *
    rw [this]
    rfl
  · rcases H.row_open with ⟨a, hv, hn, hxs, H1⟩ | ⟨g, o, c, cur, hv, h2, h3, h4, h5, H1⟩
    · omega
    subst hv
    obtain ⟨a2, c2, rfl, _, _, hc⟩ := hr.open
    obtain ⟨b, o2, rfl, hcell⟩ := hc (by omega)
    have hci : ¬ c = i := by omega
    have hd : cutV 1 i l.length (.slice (some ⟨g, o, none⟩) l.length c) = .slice (some ⟨g, o + i, none⟩) (l.length - i) (c - i) := by simp [cutV, cutA, hci, add_at]
    rw [hd] at hx
    have hrun := run_copy_row (P := P) w t ts ty e g (o + i) (l.length - i) (c - i) ⟨b, o2, none⟩ m.length c2 cur e (m.map (Value.int k)) ht hs H1.get.2 (by rw [List.length_map]; exact (Nat.min_eq_left (by omega)).symm) (fun j u hj => by
      have hj' : j < m.length := by have := (List.getElem?_eq_some_iff.1 hj).1; simpa using this
      rw [add_at, hcell j hj']
      simp [hj'] at hj
      rw [← hj, List.getD_eq_getElem?_getD, List.getElem?_eq_getElem hj']; rfl) (by simp; omega) (ints_one _ _)
    refine e_val (v := .int .i64 m.length) (w' := w.setRow g (cur.toList.take (o + i) ++ m.map (Value.int k) ++ cur.toList.drop (o + i + (m.map (Value.int k)).length)).toArray)
      (run_call (vs := [.slice (some ⟨g, o + i, none⟩) (l.length - i) (c - i), .slice (some ⟨b, o2, none⟩) m.length c2]) (by simp [evl, hx, hy]) fun _ => ?_) ⟨rfl, ?_⟩
    · simp only [builtin, Sem.run_bind]
      rw [hrun]
      simp [goInt]
    · have HT := H1.turn (w' := w.setRow g (cur.toList.take (o + i) ++ m.map (Value.int k) ++ cur.toList.drop (o + i + (m.map (Value.int k)).length)).toArray) (o' := .cells (cur.toList.take (o + i) ++ m.map (Value.int k) ++ cur.toList.drop (o + i + (m.map (Value.int k)).length)).toArray e (0, 0)) rfl rfl rfl (by simp [World.setRow]) (setRow_heap _ _ _ _ _ _ H1.get.2) fun k hk _ => setRow_other _ _ _ _ hk
      have hsp : (spliceL l i m).length = l.length := spliceL_len h
      unfold RowI
      rw [hsp]
      refine HT.row_mk (by simp [hsp]) rfl h2 h3 (by simp; omega) fun j hj => ?_
      have hj' : j < l.length := by simpa using hj
      have h5' := h5 j hj
      simp only [List.getElem?_toArray, List.length_map]
      by_cases h6 : j < i
      · rw [List.append_assoc, List.getElem?_append_left (by simp; omega), List.getElem?_take_of_lt (by omega), Array.getElem?_toList, h5']
        simp only [List.getD_eq_getElem?_getD, List.getElem?_map]
        simp only [spliceL, List.append_assoc]
        rw [List.getElem?_append_left (by simp; omega), List.getElem?_take_of_lt h6]
      · by_cases h7 : j < i + m.length
        · rw [List.getElem?_append_left (by simp; omega), List.getElem?_append_right (by simp; omega)]
          simp only [List.getD_eq_getElem?_getD, List.getElem?_map, spliceL]
          rw [List.getElem?_append_left (by simp; omega), List.getElem?_append_right (by simp; omega)]
          simp only [List.length_take, Array.length_toList, show min (o + i) cur.size = o + i from by omega, show min i l.length = i from by omega, show o + j - (o + i) = j - i from by omega]
          rw [List.getElem?_eq_getElem (by omega)]
          rfl
        · rw [List.getElem?_append_right (by simp; omega), List.getElem?_drop]
          simp only [List.getD_eq_getElem?_getD, List.getElem?_map, spliceL]
          rw [List.getElem?_append_right (by simp; omega), List.getElem?_drop]
          simp only [List.length_append, List.length_map, List.length_take, Array.length_toList, show min (o + i) cur.size = o + i from by omega, show min i l.length = i from by omega]
          rw [show o + i + m.length + (o + j - (o + i + m.length)) = o + j from by omega, Array.getElem?_toList, h5', show i + m.length + (j - (i + m.length)) = j from by omega]
          simp [List.getD_eq_getElem?_getD]
end
end Go.Proofs.YtgmpclifphbjkaaGreatDoor
end
section
/- The buffer's methods: what it is; none, Len, Point, Mark, Text, New. -/
set_option linter.unusedSimpArgs false
set_option linter.unusedVariables false
namespace Go.Proofs.YtgmpclifphbjkaaGreatDoor
open Go.RowKit

theorem cutV_one {s i j : Nat} {v : Value} (h : v.oneCell' = true) : (cutV s i j v).oneCell' = true := by cases v <;> simp_all [cutV, Value.oneCell']

/-- A buffer's cells: whether it is made, the runes with the gap, the gap's ends, point and mark. -/
def bufCells (v : Value) (f t pt mk : Int) : Array Value := #[.bool true, v, .int .i64 f, .int .i64 t, .int .i64 pt, .int .i64 mk]
theorem two_one {a b : Value} (h : a.oneCell' = true) (k : b.oneCell' = true) : ∀ u ∈ [a, b], u.oneCell' = true := by
  intro u hu; simp at hu; rcases hu with rfl | rfl
  · exact h
  · exact k
section
variable {v u : Value} {f t pt mk x : Int}
theorem buf_size : (bufCells v f t pt mk).size = 6 := rfl
theorem buf_set_l : (bufCells v f t pt mk).setIfInBounds 1 u = bufCells u f t pt mk := rfl
theorem buf_set_from : (bufCells v f t pt mk).setIfInBounds 2 (.int .i64 x) = bufCells v x t pt mk := rfl
theorem buf_set_to : (bufCells v f t pt mk).setIfInBounds 3 (.int .i64 x) = bufCells v f x pt mk := rfl
theorem buf_set_point : (bufCells v f t pt mk).setIfInBounds 4 (.int .i64 x) = bufCells v f t x mk := rfl
theorem buf_set_mark : (bufCells v f t pt mk).setIfInBounds 5 (.int .i64 x) = bufCells v f t pt x := rfl
end
/-- A buffer at p: its runes, its point, its mark. -/
def BufRep (p : Nat) (L : List Int) (pt mk : Int) : HP := exHP fun (x : Value × List Int × Nat × Nat) =>
  fact (x.2.2.1 ≤ x.2.2.2 ∧ x.2.2.2 ≤ x.2.1.length ∧ L = x.2.1.take x.2.2.1 ++ x.2.1.drop x.2.2.2 ∧ L.length ≤ 1024 ∧ x.2.1.length ≤ 4096 ∧ (0 ≤ pt ∧ pt ≤ L.length) ∧ (-1 ≤ mk ∧ mk ≤ L.length)) •
    blk p (.cells (bufCells x.1 x.2.2.1 x.2.2.2 pt mk) 178 (0, 0)) • RowI 21 .i32 x.1 x.2.1
section
variable {w0 w : World} {F : HP} {p : Nat} {L : List Int} {pt mk : Int}
theorem Holds.buf (H : Holds w0 w (BufRep p L pt mk • F)) : ∃ (a : Option Addr) (c : Nat) (xs : List Int) (f t : Nat), f ≤ t ∧ t ≤ xs.length ∧ L = xs.take f ++ xs.drop t ∧ L.length ≤ 1024 ∧ xs.length ≤ 4096 ∧ (0 ≤ pt ∧ pt ≤ L.length) ∧ (-1 ≤ mk ∧ mk ≤ L.length) ∧ xs.length ≤ c ∧ (c : Int) ≤ 9223372036854775807 ∧ L.length + t = xs.length + f ∧
    Holds w0 w (blk p (.cells (bufCells (.slice a xs.length c) f t pt mk) 178 (0, 0)) • RowI 21 .i32 (.slice a xs.length c) xs • F) := by
  obtain ⟨⟨v, xs, f, t⟩, H⟩ := H.ex_sep
  obtain ⟨⟨h1, h2, h3, h4, h5, h6, h7⟩, H⟩ := H.flat.fact
  have H := H.flat
  obtain ⟨a, c, hv, hc1, hc2, _⟩ := (H.swap.row_rd).form
  dsimp only at *
  subst hv
  refine ⟨a, c, xs, f, t, h1, h2, h3, h4, h5, h6, h7, hc1, hc2, ?_, H⟩
  rw [h3]; simp; omega
theorem Holds.mk_buf {v : Value} {xs : List Int} {f t : Nat} (h1 : f ≤ t) (h2 : t ≤ xs.length) (h3 : L = xs.take f ++ xs.drop t) (h4 : L.length ≤ 1024) (h5 : xs.length ≤ 4096) (h6 : 0 ≤ pt ∧ pt ≤ L.length) (h7 : -1 ≤ mk ∧ mk ≤ L.length)
    (H : Holds w0 w (blk p (.cells (bufCells v f t pt mk) 178 (0, 0)) • RowI 21 .i32 v xs • F)) : Holds w0 w (BufRep p L pt mk • F) :=
  Holds.mk_ex_sep (v, xs, f, t) (Holds.deep (Holds.mk_fact ⟨h1, h2, h3, h4, h5, h6, h7⟩ (Holds.deep H)))

theorem buf_none_ret (t : TypeId) {cs : Array Value} {fr : Nat × Nat} {m : Bool} (hb : w.heap[p]? = some (.cells cs t fr)) (h0 : cs[0]? = some (.bool m)) :
    Ret Tryz.prog 130 #[.pointer (some ⟨p, 0, none⟩)] w fun v w' => v = .bool (!m) ∧ w = w' := by
  refine ret_enter Tryz.func130 rfl Tryz.ntmps130 (Nat.le_of_ble_eq_true rfl) ?_
  dsimp only [slots0, Nat.reduceAdd]
  refine wc_seq ?_
  refine wc_region ?_
  refine wl_val (r_assign rfl) (ltn rfl) ?_
  refine wl_nil ?_
  refine wq_seq ?_
  refine wc_seq ?_
  refine wc_region ?_
  refine wl_val (r_move rfl) (ltn rfl) ?_
  refine wl_val (r_ptr_nil Tryz.underlying57 rfl rfl) (ltn rfl) ?_
  refine wl_split rfl (ltn rfl) (fun h => by exfalso; (try simp only [cmpS] at h); simp at h) (fun h1 => ?_)
  (try simp only [cmpS] at h1)
  refine wl_yes rfl rfl ?_
  refine wl_val (r_move rfl) (ltn rfl) ?_
  refine wl_yes rfl rfl ?_
  refine wl_val (r_nil rfl) (ltn rfl) ?_
  refine wl_yes rfl rfl ?_
  refine wl_val (r_fieldA 0 Tryz.underlying178 rfl rfl Tryz.sizeOf4 (by decide) rfl (by first | exact Nat.zero_add _ | rfl)) (ltn rfl) ?_
  refine wl_yes rfl rfl ?_
  refine wl_val (r_load (plain_of Tryz.underlying4 rfl) rfl (cell_of_blk hb h0)) (ltn rfl) ?_
  refine wl_yes rfl rfl ?_
  refine wl_val (r_not rfl) (ltn rfl) ?_
  refine wl_val (r_pick_f rfl rfl) (ltn rfl) ?_
  refine wl_val (r_assign rfl) (ltn rfl) ?_
  refine wl_nil ?_
  refine wq_seq ?_
  refine wc_ret ?_
  refine wq_end1 (.inl rfl) Tryz.results130 rfl ?_
  exact ⟨rfl, rfl⟩
theorem buf_len_ret (H : Holds w0 w (BufRep p L pt mk • F)) : Ret Tryz.prog 69 #[.pointer (some ⟨p, 0, none⟩)] w fun v w' => v = .int .i64 L.length ∧ Drew w w' := by
  obtain ⟨a, c, xs, f, t, h1, h2, h3, h4, h5, h6, h7, hc1, hc2, hl, H1⟩ := H.buf
  have hb := H1.get.2
  refine ret_enter Tryz.func69 rfl Tryz.ntmps69 (Nat.le_of_ble_eq_true rfl) ?_
  dsimp only [slots0, Nat.reduceAdd]
  refine wc_seq ?_
  refine wc_region ?_
  refine wl_val (r_assign rfl) (ltn rfl) ?_
  refine wl_nil ?_
  refine wq_seq ?_
  refine wc_seq ?_
  refine wc_seq ?_
  refine wc_region ?_
  refine wl_val (r_move rfl) (ltn rfl) ?_
  refine wl_eff (e_call (r_call rfl Tryz.func130 rfl rfl) (buf_none_ret _ hb rfl)) (ltn rfl) ?_
  rintro _ _ ⟨rfl, rfl⟩
  refine wl_nil ?_
  refine wq_seq ?_
  refine wc_cond_f rfl ?_
  refine wc_skip ?_
  refine wq_seq ?_
  refine wc_seq ?_
  refine wd_begin (n := 16) [0, 1, 2, 3, 4, 5, 6, 7, 8, 9, 10, 11, 12, 13, 14, 15] (fun W => W.heap = w.heap) (by kernel_rfl) (by kernel_rfl) rfl ?_
  have hS0 : (fun W => W.heap = w.heap) (w.drew) := rfl
  have H3d := H1.drew
  refine wd_takeT 0 rfl (by kernel_rfl) (by kernel_rfl) hS0 (fun _ => r_move rfl) (ltn rfl) ?_
  refine wd_takeT 1 rfl (by kernel_rfl) (by kernel_rfl) hS0 (fun _ => r_nil rfl) (ltn rfl) ?_
  refine wd_takeT 2 rfl (by kernel_rfl) (by kernel_rfl) hS0 (fun _ => r_fieldA 1 Tryz.underlying178 rfl rfl Tryz.sizeOf22 (by decide) rfl (by first | exact Nat.zero_add _ | rfl)) (ltn rfl) ?_
  refine wd_take 3 rfl (by kernel_rfl) (by kernel_rfl) hS0 (by decide) (fun W hW => r_load (plain_of Tryz.underlying22 rfl) rfl (cell_of_blk (by rw [hW]; exact hb) rfl)) (ltn rfl) ?_
  refine wd_takeT 4 rfl (by kernel_rfl) (by kernel_rfl) hS0 (fun _ => r_len Tryz.underlying22 rfl) (ltn rfl) ?_
  refine wd_takeT 5 rfl (by kernel_rfl) (by kernel_rfl) hS0 (fun _ => r_move rfl) (ltn rfl) ?_
  refine wd_takeT 6 rfl (by kernel_rfl) (by kernel_rfl) hS0 (fun _ => r_nil rfl) (ltn rfl) ?_
  refine wd_takeT 7 rfl (by kernel_rfl) (by kernel_rfl) hS0 (fun _ => r_fieldA 3 Tryz.underlying178 rfl rfl Tryz.sizeOf3 (by decide) rfl (by first | exact Nat.zero_add _ | rfl)) (ltn rfl) ?_
  refine wd_take 8 rfl (by kernel_rfl) (by kernel_rfl) hS0 (by decide) (fun W hW => r_load (plain_of Tryz.underlying3 rfl) rfl (cell_of_blk (by rw [hW]; exact hb) rfl)) (ltn rfl) ?_
  refine wd_takeT 9 rfl (by kernel_rfl) (by kernel_rfl) hS0 (fun _ => r_move rfl) (ltn rfl) ?_
  refine wd_takeT 10 rfl (by kernel_rfl) (by kernel_rfl) hS0 (fun _ => r_nil rfl) (ltn rfl) ?_
  refine wd_takeT 11 rfl (by kernel_rfl) (by kernel_rfl) hS0 (fun _ => r_fieldA 2 Tryz.underlying178 rfl rfl Tryz.sizeOf3 (by decide) rfl (by first | exact Nat.zero_add _ | rfl)) (ltn rfl) ?_
  refine wd_take 12 rfl (by kernel_rfl) (by kernel_rfl) hS0 (by decide) (fun W hW => r_load (plain_of Tryz.underlying3 rfl) rfl (cell_of_blk (by rw [hW]; exact hb) rfl)) (ltn rfl) ?_
  refine wd_takeT 13 rfl (by kernel_rfl) (by kernel_rfl) hS0 (fun _ => r_sub rfl rfl (by omega)) (ltn rfl) ?_
  refine wd_takeT 14 rfl (by kernel_rfl) (by kernel_rfl) hS0 (fun _ => r_sub rfl rfl (by omega)) (ltn rfl) ?_
  refine wd_takeT 15 rfl (by kernel_rfl) (by kernel_rfl) hS0 (fun _ => r_assign rfl) (ltn rfl) ?_
  refine wd_done (by kernel_rfl) ?_
  refine wq_seq ?_
  refine wc_ret ?_
  refine wq_end1 (.inl rfl) Tryz.results69 rfl ?_
  exact ⟨by congr 1; omega, Drew.refl _ |>.drew⟩
theorem buf_point_ret (H : Holds w0 w (BufRep p L pt mk • F)) : Ret Tryz.prog 68 #[.pointer (some ⟨p, 0, none⟩)] w fun v w' => v = .int .i64 pt ∧ w = w' := by
  obtain ⟨a, c, xs, f, t, h1, h2, h3, h4, h5, h6, h7, hc1, hc2, hl, H1⟩ := H.buf
  have hb := H1.get.2
  refine ret_enter Tryz.func68 rfl Tryz.ntmps68 (Nat.le_of_ble_eq_true rfl) ?_
  dsimp only [slots0, Nat.reduceAdd]
  refine wc_seq ?_
  refine wc_region ?_
  refine wl_val (r_assign rfl) (ltn rfl) ?_
  refine wl_nil ?_
  refine wq_seq ?_
  refine wc_seq ?_
  refine wc_seq ?_
  refine wc_region ?_
  refine wl_val (r_move rfl) (ltn rfl) ?_
  refine wl_eff (e_call (r_call rfl Tryz.func130 rfl rfl) (buf_none_ret _ hb rfl)) (ltn rfl) ?_
  rintro _ _ ⟨rfl, rfl⟩
  refine wl_nil ?_
  refine wq_seq ?_
  refine wc_cond_f rfl ?_
  refine wc_skip ?_
  refine wq_seq ?_
  refine wc_seq ?_
  refine wc_region ?_
  refine wl_val (r_move rfl) (ltn rfl) ?_
  refine wl_val (r_nil rfl) (ltn rfl) ?_
  refine wl_val (r_fieldA 4 Tryz.underlying178 rfl rfl Tryz.sizeOf3 (by decide) rfl (by first | exact Nat.zero_add _ | rfl)) (ltn rfl) ?_
  refine wl_val (r_load (plain_of Tryz.underlying3 rfl) rfl (cell_of_blk hb rfl)) (ltn rfl) ?_
  refine wl_val (r_assign rfl) (ltn rfl) ?_
  refine wl_nil ?_
  refine wq_seq ?_
  refine wc_ret ?_
  refine wq_end1 (.inl rfl) Tryz.results68 rfl ?_
  exact ⟨rfl, rfl⟩
theorem buf_mark_ret (H : Holds w0 w (BufRep p L pt mk • F)) : Ret Tryz.prog 131 #[.pointer (some ⟨p, 0, none⟩)] w fun v w' => v = .int .i64 mk ∧ w = w' := by
  obtain ⟨a, c, xs, f, t, h1, h2, h3, h4, h5, h6, h7, hc1, hc2, hl, H1⟩ := H.buf
  have hb := H1.get.2
  refine ret_enter Tryz.func131 rfl Tryz.ntmps131 (Nat.le_of_ble_eq_true rfl) ?_
  dsimp only [slots0, Nat.reduceAdd]
  refine wc_seq ?_
  refine wc_region ?_
  refine wl_val (r_assign rfl) (ltn rfl) ?_
  refine wl_nil ?_
  refine wq_seq ?_
  refine wc_seq ?_
  refine wc_seq ?_
  refine wc_region ?_
  refine wl_val (r_move rfl) (ltn rfl) ?_
  refine wl_eff (e_call (r_call rfl Tryz.func130 rfl rfl) (buf_none_ret _ hb rfl)) (ltn rfl) ?_
  rintro _ _ ⟨rfl, rfl⟩
  refine wl_nil ?_
  refine wq_seq ?_
  refine wc_cond_f rfl ?_
  refine wc_skip ?_
  refine wq_seq ?_
  refine wc_seq ?_
  refine wc_region ?_
  refine wl_val (r_move rfl) (ltn rfl) ?_
  refine wl_val (r_nil rfl) (ltn rfl) ?_
  refine wl_val (r_fieldA 5 Tryz.underlying178 rfl rfl Tryz.sizeOf3 (by decide) rfl (by first | exact Nat.zero_add _ | rfl)) (ltn rfl) ?_
  refine wl_val (r_load (plain_of Tryz.underlying3 rfl) rfl (cell_of_blk hb rfl)) (ltn rfl) ?_
  refine wl_val (r_assign rfl) (ltn rfl) ?_
  refine wl_nil ?_
  refine wq_seq ?_
  refine wc_ret ?_
  refine wq_end1 (.inl rfl) Tryz.results131 rfl ?_
  exact ⟨rfl, rfl⟩
theorem buf_text_ret (H : Holds w0 w (BufRep p L pt mk • F)) : Ret Tryz.prog 117 #[.pointer (some ⟨p, 0, none⟩)] w fun v w' => Holds w0 w' (RowI 21 .i32 v L • BufRep p L pt mk • F) := by
  obtain ⟨a, c, xs, f, t, h1, h2, h3, h4, h5, h6, h7, hc1, hc2, hl, H1⟩ := H.buf
  have hb := H1.get.2
  refine ret_enter Tryz.func117 rfl Tryz.ntmps117 (Nat.le_of_ble_eq_true rfl) ?_
  dsimp only [slots0, Nat.reduceAdd]
  refine wc_seq ?_
  refine wc_region ?_
  refine wl_val (r_assign rfl) (ltn rfl) ?_
  refine wl_nil ?_
  refine wq_seq ?_
  refine wc_seq ?_
  refine wc_seq ?_
  refine wc_region ?_
  refine wl_val (r_move rfl) (ltn rfl) ?_
  refine wl_eff (e_call (r_call rfl Tryz.func130 rfl rfl) (buf_none_ret _ hb rfl)) (ltn rfl) ?_
  rintro _ _ ⟨rfl, rfl⟩
  refine wl_nil ?_
  refine wq_seq ?_
  refine wc_cond_f rfl ?_
  refine wc_skip ?_
  refine wq_seq ?_
  refine wc_seq ?_
  refine wd_begin (n := 21) [0, 1, 2, 3, 4, 5, 6, 7, 8, 9, 10, 11, 12, 13, 14, 15, 16, 17, 18, 19, 20] (fun W => W.heap[p]? = some (.cells (bufCells (.slice a xs.length c) f t pt mk) 178 (0, 0))) (by kernel_rfl) (by kernel_rfl) rfl ?_
  have hS0 : (fun W => W.heap[p]? = some (.cells (bufCells (.slice a xs.length c) f t pt mk) 178 (0, 0))) (w.drew) := hb
  have H3d := H1.drew
  refine wd_takeT 0 rfl (by kernel_rfl) (by kernel_rfl) hS0 (fun _ => r_move rfl) (ltn rfl) ?_
  refine wd_takeT 1 rfl (by kernel_rfl) (by kernel_rfl) hS0 (fun _ => r_nil rfl) (ltn rfl) ?_
  refine wd_takeT 2 rfl (by kernel_rfl) (by kernel_rfl) hS0 (fun _ => r_fieldA 1 Tryz.underlying178 rfl rfl Tryz.sizeOf22 (by decide) rfl (by first | exact Nat.zero_add _ | rfl)) (ltn rfl) ?_
  refine wd_take 3 rfl (by kernel_rfl) (by kernel_rfl) hS0 (by decide) (fun W hW => r_load (plain_of Tryz.underlying22 rfl) rfl (cell_of_blk hW rfl)) (ltn rfl) ?_
  refine wd_takeT 4 rfl (by kernel_rfl) (by kernel_rfl) hS0 (fun _ => r_move rfl) (ltn rfl) ?_
  refine wd_takeT 5 rfl (by kernel_rfl) (by kernel_rfl) hS0 (fun _ => r_nil rfl) (ltn rfl) ?_
  refine wd_takeT 6 rfl (by kernel_rfl) (by kernel_rfl) hS0 (fun _ => r_fieldA 2 Tryz.underlying178 rfl rfl Tryz.sizeOf3 (by decide) rfl (by first | exact Nat.zero_add _ | rfl)) (ltn rfl) ?_
  refine wd_take 7 rfl (by kernel_rfl) (by kernel_rfl) hS0 (by decide) (fun W hW => r_load (plain_of Tryz.underlying3 rfl) rfl (cell_of_blk hW rfl)) (ltn rfl) ?_
  refine wd_takeT 8 rfl (by kernel_rfl) (by kernel_rfl) hS0 (fun _ => r_slice Tryz.underlying22 Tryz.sizeOf21 rfl rfl rfl (by omega)) (ltn rfl) ?_
  refine wd_takeT 9 rfl (by kernel_rfl) (by kernel_rfl) hS0 (fun _ => r_move rfl) (ltn rfl) ?_
  refine wd_takeT 10 rfl (by kernel_rfl) (by kernel_rfl) hS0 (fun _ => r_nil rfl) (ltn rfl) ?_
  refine wd_takeT 11 rfl (by kernel_rfl) (by kernel_rfl) hS0 (fun _ => r_fieldA 1 Tryz.underlying178 rfl rfl Tryz.sizeOf22 (by decide) rfl (by first | exact Nat.zero_add _ | rfl)) (ltn rfl) ?_
  refine wd_take 12 rfl (by kernel_rfl) (by kernel_rfl) hS0 (by decide) (fun W hW => r_load (plain_of Tryz.underlying22 rfl) rfl (cell_of_blk hW rfl)) (ltn rfl) ?_
  refine wd_takeT 13 rfl (by kernel_rfl) (by kernel_rfl) hS0 (fun _ => r_move rfl) (ltn rfl) ?_
  refine wd_takeT 14 rfl (by kernel_rfl) (by kernel_rfl) hS0 (fun _ => r_nil rfl) (ltn rfl) ?_
  refine wd_takeT 15 rfl (by kernel_rfl) (by kernel_rfl) hS0 (fun _ => r_fieldA 3 Tryz.underlying178 rfl rfl Tryz.sizeOf3 (by decide) rfl (by first | exact Nat.zero_add _ | rfl)) (ltn rfl) ?_
  refine wd_take 16 rfl (by kernel_rfl) (by kernel_rfl) hS0 (by decide) (fun W hW => r_load (plain_of Tryz.underlying3 rfl) rfl (cell_of_blk hW rfl)) (ltn rfl) ?_
  refine wd_takeT 17 rfl (by kernel_rfl) (by kernel_rfl) hS0 (fun _ => r_slice Tryz.underlying22 Tryz.sizeOf21 rfl rfl rfl (by omega)) (ltn rfl) ?_
  refine wd_eff 18 rfl (by kernel_rfl) (e_lit (vs := [cutV 1 0 f (.slice a xs.length c), cutV 1 t xs.length (.slice a xs.length c)]) H3d Tryz.underlying43 Tryz.sizeOf22 Tryz.zeroValue22 rfl rfl rfl (by decide) (two_one (cutV_one rfl) (cutV_one rfl))) (ltn rfl) ?_
  rintro _ w2 ⟨b2, rfl, H2⟩
  have hS2 : (fun W => W.heap[p]? = some (.cells (bufCells (.slice a xs.length c) f t pt mk) 178 (0, 0))) w2 := H2.swap.get.2
  refine keepS hS2 ?_
  refine wd_eff 19 rfl (by kernel_rfl) (e_call (r_call rfl Tryz.func167 rfl rfl) (concat2_ret (l1 := xs.take f) (l2 := xs.drop t) H2 (fun W HW => RdI.upto HW.rot.row_rd (by omega)) (fun W HW => RdI.from HW.rot.row_rd (by omega)) (by simp; omega))) (ltn rfl) ?_
  rintro u w3 H3
  have hS3 : (fun W => W.heap[p]? = some (.cells (bufCells (.slice a xs.length c) f t pt mk) 178 (0, 0))) w3 := H3.rot.get.2
  refine keepS hS3 ?_
  refine wd_takeT 20 rfl (by kernel_rfl) (by kernel_rfl) hS3 (fun _ => r_assign rfl) (ltn rfl) ?_
  refine wd_done (by kernel_rfl) ?_
  refine wq_seq ?_
  refine wc_ret ?_
  refine wq_end1 (.inl rfl) Tryz.results117 rfl ?_
  rw [← h3] at H3
  exact (Holds.mk_buf h1 h2 h3 h4 h5 h6 h7 H3.swap.right.d3).swap
theorem buf_new_ret {v : Value} {l : List Int} (H : Holds w0 w F) (hr : FRdI w0 F .i32 v l) (hl : l.length ≤ 1024) : Ret Tryz.prog 79 #[v] w fun v' w' => ∃ p, v' = .tuple #[.pointer (some ⟨p, 0, none⟩), .int .i64 0] ∧ Holds w0 w' (BufRep p l l.length (-1) • F) := by
  obtain ⟨a, c, rfl, _, _, _⟩ := (hr w H).open
  refine ret_enter Tryz.func79 rfl Tryz.ntmps79 (Nat.le_of_ble_eq_true rfl) ?_
  dsimp only [slots0, Nat.reduceAdd]
  refine wc_seq ?_
  refine wc_region ?_
  refine wl_val (r_assign rfl) (ltn rfl) ?_
  refine wl_val (r_assign rfl) (ltn rfl) ?_
  refine wl_nil ?_
  refine wq_seq ?_
  refine wc_seq ?_
  refine wc_seq ?_
  refine wc_region ?_
  refine wl_val (r_move rfl) (ltn rfl) ?_
  refine wl_val (r_len Tryz.underlying22 rfl) (ltn rfl) ?_
  refine wl_val (r_gtr rfl rfl) (ltn rfl) ?_
  refine wl_nil ?_
  refine wq_seq ?_
  refine wc_cond rfl (fun h => by exfalso; (try simp only [cmpS] at h); first | contradiction | omega | (simp at h <;> omega)) (fun h1 => ?_)
  (try simp only [cmpS] at h1)
  refine wc_skip ?_
  refine wq_seq ?_
  refine wc_seq ?_
  refine wc_region ?_
  refine wl_val (r_move rfl) (ltn rfl) ?_
  refine wl_eff (e_call (r_call rfl Tryz.func136 rfl rfl) (clone_ret H hr (by omega))) (ltn rfl) ?_
  rintro u w1 H1
  obtain ⟨au, cu, hu, _⟩ := (H1.row_rd).form
  subst hu
  refine wl_val (r_move rfl) (ltn rfl) ?_
  refine wl_val (r_len Tryz.underlying22 rfl) (ltn rfl) ?_
  refine wl_val (r_build (pl := #[(0, 1), (1, 1), (2, 1), (3, 1), (4, 1), (5, 1)]) (bufCells (.slice au l.length cu) 0 0 l.length (-1)) Tryz.underlying178 Tryz.zeroValue178 (fun w => by kernel_rfl) rfl (by kernel_rfl)) (ltn rfl) ?_
  refine wl_eff (e_box H1 rfl) (ltn rfl) ?_
  rintro _ w2 ⟨b2, rfl, H2⟩
  refine wl_val (r_assign rfl) (ltn rfl) ?_
  refine wl_nil ?_
  refine wq_seq ?_
  refine wc_seq ?_
  have HB : Holds w0 w2 (blk b2 (.cells (bufCells (.slice au l.length cu) 0 0 l.length (-1)) 178 (0, 0)) • RowI 21 .i32 (.slice au l.length cu) l • F) := H2
  refine wc_region ?_
  refine wl_val (r_move rfl) (ltn rfl) ?_
  refine wl_val (r_move rfl) (ltn rfl) ?_
  refine wl_val (r_move rfl) (ltn rfl) ?_
  refine wl_val (r_len Tryz.underlying22 rfl) (ltn rfl) ?_
  refine wl_val (r_move rfl) (ltn rfl) ?_
  refine wl_val (r_len Tryz.underlying22 rfl) (ltn rfl) ?_
  refine wl_val (r_nil rfl) (ltn rfl) ?_
  refine wl_val (r_fieldA 2 Tryz.underlying178 rfl rfl Tryz.sizeOf3 (by decide) rfl (by first | exact Nat.zero_add _ | rfl)) (ltn rfl) ?_
  refine wl_eff0 (e_store HB Tryz.sizeOf3 rfl rfl rfl (by rw [buf_size]; decide)) ?_
  rintro _ w3 HB1
  rw [buf_set_from] at HB1
  refine wl_val (r_nil rfl) (ltn rfl) ?_
  refine wl_val (r_fieldA 3 Tryz.underlying178 rfl rfl Tryz.sizeOf3 (by decide) rfl (by first | exact Nat.zero_add _ | rfl)) (ltn rfl) ?_
  refine wl_eff0 (e_store HB1 Tryz.sizeOf3 rfl rfl rfl (by rw [buf_size]; decide)) ?_
  rintro _ w4 HB2
  rw [buf_set_to] at HB2
  refine wl_nil ?_
  refine wq_seq ?_
  refine wc_seq ?_
  refine wc_region ?_
  refine wl_val (r_move rfl) (ltn rfl) ?_
  refine wl_val (r_assign rfl) (ltn rfl) ?_
  refine wl_val (r_assign rfl) (ltn rfl) ?_
  refine wl_nil ?_
  refine wq_seq ?_
  refine wc_ret ?_
  refine wq_end2 (.inl rfl) Tryz.results79 rfl rfl ?_
  exact ⟨_, rfl, Holds.mk_buf (f := l.length) (t := l.length) (Nat.le_refl _) (Nat.le_refl _) (by simp) hl (by omega) (by omega) (by omega) HB2⟩
end
end Go.Proofs.YtgmpclifphbjkaaGreatDoor
end
