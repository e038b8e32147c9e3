/- The document's answers on where words begin and end: the same. -/
import Derived.Test.YtlldaaamdchkdaaDoorRefTab
import Derived.Test.YtlldaaamdchkdaaDoorMove
set_option linter.unusedSimpArgs false
set_option linter.unusedVariables false
namespace Go.Proofs.YtlldaaamdchkdaaDoor
open Go.RowKit
section
variable {w0 w : World} {F : HP} {v : Value} {l : List Int}
theorem ref_cut_ret {x : Int} {a : Option Addr} {c : Nat} : Ret Tryd.prog 64 #[.slice a l.length c, .int .i64 x] w fun v' w' => v' = .int .i64 (withinM l.length x) ∧ w = w' := by
  refine ret_enter Tryd.func64 rfl Tryd.ntmps64 (Nat.le_of_ble_eq_true rfl) ?_
  dsimp only [slots0, Nat.reduceAdd]
  refine wc_seq ?_
  refine wc_region ?_
  refine wl_val (r_assign rfl) (by decide) ?_
  refine wl_nil ?_
  refine wq_seq ?_
  refine wc_seq ?_
  refine wc_region ?_
  refine wl_val (r_move rfl) (by decide) ?_
  refine wl_val (r_max rfl rfl) (by decide) ?_
  refine wl_val (r_move rfl) (by decide) ?_
  refine wl_val (r_len Tryd.underlying22 rfl) (by decide) ?_
  refine wl_val (r_min rfl rfl) (by decide) ?_
  refine wl_val (r_assign rfl) (by decide) ?_
  refine wl_nil ?_
  refine wq_seq ?_
  refine wc_ret ?_
  refine wq_end1 (.inl rfl) Tryd.results64 rfl ?_
  exact ⟨by congr 1; unfold withinM; omega, rfl⟩
theorem ref_word_end_ret {x : Int} (H : Holds w0 w F) (hr : FRdI w0 F .i32 v l) : Ret Tryd.prog 35 #[v, .int .i64 x] w fun v' w' => v' = .int .i64 (wordEndM l x) ∧ Holds w0 w' F := by
  obtain ⟨a, c, hv, hac, hac2, _⟩ := (hr w H).open
  subst hv
  have hw := withinM_le l.length x
  obtain ⟨n, hn⟩ : ∃ n, withinM l.length x = n := ⟨_, rfl⟩
  rw [hn] at hw
  refine ret_enter Tryd.func35 rfl Tryd.ntmps35 (Nat.le_of_ble_eq_true rfl) ?_
  dsimp only [slots0, Nat.reduceAdd]
  refine wc_seq ?_
  refine wc_region ?_
  refine wl_val (r_assign rfl) (by decide) ?_
  refine wl_nil ?_
  refine wq_seq ?_
  refine wc_seq ?_
  refine wc_region ?_
  refine wl_val (r_move rfl) (by decide) ?_
  refine wl_val (r_move rfl) (by decide) ?_
  refine wl_eff (e_call (r_call rfl Tryd.func64 rfl rfl) (ref_cut_ret)) (by decide) ?_
  rintro _ _ ⟨rfl, rfl⟩
  rw [hn]
  refine wl_val (r_assign rfl) (by decide) ?_
  refine wl_nil ?_
  refine wq_seq ?_
  refine wc_seq ?_
  refine wc_block ?_
  refine wc_loop [(0, _)] (fun (k : Nat) => [(1, .int .i64 (k : Int))]) (fun (k : Nat) W => n ≤ k ∧ k ≤ l.length ∧ (∀ j, n ≤ j → j < k → (!letterM (l.getD j 0)) = true) ∧ Holds w0 W F) (fun (k : Nat) => l.length - k) (n) (Sub.cons rfl (Sub.nil _)) (Sub.cons rfl (Sub.nil _)) ⟨by omega, by omega, fun j h8 h9 => absurd h8 (by omega), H⟩ ?_
  rintro k w2 ⟨hk1, hk2, hk3, HL⟩
  dsimp only [List.cons_append, List.nil_append]
  refine wc_seq ?_
  refine wc_seq ?_
  refine wc_region ?_
  refine wl_val (r_move rfl) (by decide) ?_
  refine wl_val (r_move rfl) (by decide) ?_
  refine wl_val (r_len Tryd.underlying22 rfl) (by decide) ?_
  refine wl_val (r_lss rfl rfl) (by decide) ?_
  refine wl_split rfl (by decide) (fun h1 => ?_) (fun h1 => ?_)
  · (try simp only [beq_iff_eq, bne_iff_ne, ne_eq, decide_eq_true_eq, decide_eq_false_iff_not, beq_eq_false_iff_ne, bne_eq_false_iff_eq, Bool.not_eq_true', Bool.not_eq_false', Bool.not_eq_eq_eq_not, Bool.not_true, Bool.not_false, gt_iff_lt, ge_iff_le, Int.not_lt, Int.not_le] at h1)
    try (exfalso; first | contradiction | omega)
    all_goals
      obtain ⟨a', c', hsl, _, _, hcell⟩ := (hr _ HL).open
      cases hsl
      obtain ⟨b, o, rfl, hq⟩ := hcell (by omega)
      have hqk := hq k (by omega)
      refine wl_yes rfl rfl ?_
      refine wl_val (r_move rfl) (by decide) ?_
      refine wl_yes rfl rfl ?_
      refine wl_val (r_move rfl) (by decide) ?_
      refine wl_yes rfl rfl ?_
      refine wl_val (r_index Tryd.underlying22 Tryd.sizeOf21 rfl rfl (by omega)) (by decide) ?_
      refine wl_yes rfl rfl ?_
      refine wl_val (r_load (plain_of Tryd.underlying21 rfl) rfl (by rw [show (k : Int).toNat * 1 = k from by omega]; exact hqk)) (by decide) ?_
      refine wl_yes rfl rfl ?_
      refine wl_eff (e_call (r_call rfl Tryd.func66 rfl rfl) (ref_letter_ret HL)) (by decide) ?_
      rintro _ w3 ⟨rfl, H3⟩
      have HN := H3
      refine wl_yes rfl rfl ?_
      refine wl_val (r_not rfl) (by decide) ?_
      refine wl_val (r_pick_t rfl rfl) (by decide) ?_
      refine wl_nil ?_
      refine wq_seq ?_
      refine wc_cond rfl (fun h2 => ?_) (fun h2 => ?_)
      · (try simp only [beq_iff_eq, bne_iff_ne, ne_eq, decide_eq_true_eq, decide_eq_false_iff_not, beq_eq_false_iff_ne, bne_eq_false_iff_eq, Bool.not_eq_true', Bool.not_eq_false', Bool.not_eq_eq_eq_not, Bool.not_true, Bool.not_false, gt_iff_lt, ge_iff_le, Int.not_lt, Int.not_le] at h2)
        try (exfalso; first | contradiction | omega)
        all_goals
          
          refine wc_skip ?_
          refine wq_seq ?_
          refine wc_block ?_
          refine wc_region ?_
          refine wl_val (r_move rfl) (by decide) ?_
          refine wl_val (r_add rfl rfl (by omega)) (by decide) ?_
          refine wl_val (r_assign rfl) (by decide) ?_
          refine wl_nil ?_
          refine wq_block_normal ?_
          refine wq_round (k + 1) ?_ ?_ ?_ ?_
          · exact (Sub.cons rfl (Sub.nil _))
          · exact (Sub.cons rfl (Sub.nil _))
          · exact ⟨by omega, by omega, fun j h8 h9 => by by_cases e : j = k; (subst e; have h7 := ‹letterM (l.getD j 0) = false›; rw [h7]; rfl); exact hk3 j h8 (by omega), HN⟩
          · (try dsimp only); omega
      · (try simp only [beq_iff_eq, bne_iff_ne, ne_eq, decide_eq_true_eq, decide_eq_false_iff_not, beq_eq_false_iff_ne, bne_eq_false_iff_eq, Bool.not_eq_true', Bool.not_eq_false', Bool.not_eq_eq_eq_not, Bool.not_true, Bool.not_false, gt_iff_lt, ge_iff_le, Int.not_lt, Int.not_le] at h2)
        try (exfalso; first | contradiction | omega)
        all_goals
          
          refine wc_exit ?_
          refine wq_then_exit ?_
          refine wq_then_exit ?_
          refine wq_block_hit ?_
          refine wq_seq ?_
          refine wc_seq ?_
          refine wc_block ?_
          refine wc_loop [(0, _)] (fun (k2 : Nat) => [(1, .int .i64 (k2 : Int))]) (fun (k2 : Nat) W => k ≤ k2 ∧ k2 ≤ l.length ∧ (∀ j, k ≤ j → j < k2 → letterM (l.getD j 0) = true) ∧ Holds w0 W F) (fun (k2 : Nat) => l.length - k2) (k) (Sub.cons rfl (Sub.nil _)) (Sub.cons rfl (Sub.nil _)) ⟨by omega, by omega, fun j h8 h9 => absurd h8 (by omega), H3⟩ ?_
          rintro k2 w4 ⟨hm1, hm2, hm3, HL⟩
          dsimp only [List.cons_append, List.nil_append]
          refine wc_seq ?_
          refine wc_seq ?_
          refine wc_region ?_
          refine wl_val (r_move rfl) (by decide) ?_
          refine wl_val (r_move rfl) (by decide) ?_
          refine wl_val (r_len Tryd.underlying22 rfl) (by decide) ?_
          refine wl_val (r_lss rfl rfl) (by decide) ?_
          refine wl_split rfl (by decide) (fun h3 => ?_) (fun h3 => ?_)
          · (try simp only [beq_iff_eq, bne_iff_ne, ne_eq, decide_eq_true_eq, decide_eq_false_iff_not, beq_eq_false_iff_ne, bne_eq_false_iff_eq, Bool.not_eq_true', Bool.not_eq_false', Bool.not_eq_eq_eq_not, Bool.not_true, Bool.not_false, gt_iff_lt, ge_iff_le, Int.not_lt, Int.not_le] at h3)
            try (exfalso; first | contradiction | omega)
            all_goals
              obtain ⟨a', c', hsl, _, _, hcell⟩ := (hr _ HL).open
              cases hsl
              obtain ⟨b, o, hab, hq⟩ := hcell (by omega)
              cases hab
              have hqk := hq k2 (by omega)
              refine wl_yes rfl rfl ?_
              refine wl_val (r_move rfl) (by decide) ?_
              refine wl_yes rfl rfl ?_
              refine wl_val (r_move rfl) (by decide) ?_
              refine wl_yes rfl rfl ?_
              refine wl_val (r_index Tryd.underlying22 Tryd.sizeOf21 rfl rfl (by omega)) (by decide) ?_
              refine wl_yes rfl rfl ?_
              refine wl_val (r_load (plain_of Tryd.underlying21 rfl) rfl (by rw [show (k2 : Int).toNat * 1 = k2 from by omega]; exact hqk)) (by decide) ?_
              refine wl_yes rfl rfl ?_
              refine wl_eff (e_call (r_call rfl Tryd.func66 rfl rfl) (ref_letter_ret HL)) (by decide) ?_
              rintro _ w5 ⟨rfl, H5⟩
              have HN := H5
              refine wl_val (r_pick_t rfl rfl) (by decide) ?_
              refine wl_nil ?_
              refine wq_seq ?_
              refine wc_cond rfl (fun h4 => ?_) (fun h4 => ?_)
              · (try simp only [beq_iff_eq, bne_iff_ne, ne_eq, decide_eq_true_eq, decide_eq_false_iff_not, beq_eq_false_iff_ne, bne_eq_false_iff_eq, Bool.not_eq_true', Bool.not_eq_false', Bool.not_eq_eq_eq_not, Bool.not_true, Bool.not_false, gt_iff_lt, ge_iff_le, Int.not_lt, Int.not_le] at h4)
                try (exfalso; first | contradiction | omega)
                all_goals
                  
                  refine wc_skip ?_
                  refine wq_seq ?_
                  refine wc_block ?_
                  refine wc_region ?_
                  refine wl_val (r_move rfl) (by decide) ?_
                  refine wl_val (r_add rfl rfl (by omega)) (by decide) ?_
                  refine wl_val (r_assign rfl) (by decide) ?_
                  refine wl_nil ?_
                  refine wq_block_normal ?_
                  refine wq_round (k2 + 1) ?_ ?_ ?_ ?_
                  · exact (Sub.cons rfl (Sub.nil _))
                  · exact (Sub.cons rfl (Sub.nil _))
                  · exact ⟨by omega, by omega, fun j h8 h9 => by by_cases e : j = k2; (subst e; assumption); exact hm3 j h8 (by omega), HN⟩
                  · (try dsimp only); omega
              · (try simp only [beq_iff_eq, bne_iff_ne, ne_eq, decide_eq_true_eq, decide_eq_false_iff_not, beq_eq_false_iff_ne, bne_eq_false_iff_eq, Bool.not_eq_true', Bool.not_eq_false', Bool.not_eq_eq_eq_not, Bool.not_true, Bool.not_false, gt_iff_lt, ge_iff_le, Int.not_lt, Int.not_le] at h4)
                try (exfalso; first | contradiction | omega)
                all_goals
                  
                  refine wc_exit ?_
                  refine wq_then_exit ?_
                  refine wq_then_exit ?_
                  refine wq_block_hit ?_
                  refine wq_seq ?_
                  refine wc_seq ?_
                  refine wc_region ?_
                  refine wl_val (r_move rfl) (by decide) ?_
                  refine wl_val (r_assign rfl) (by decide) ?_
                  refine wl_nil ?_
                  refine wq_seq ?_
                  refine wc_ret ?_
                  refine wq_end1 (.inl rfl) Tryd.results35 rfl ?_
                  exact ⟨by rw [wordEndM, hn, over_eq (k := k) hk1 hk2 hk3 (by first | (left; omega) | (right; rw [show letterM (l.getD k 0) = true from by assumption]; rfl)), over_eq (k := k2) hm1 hm2 hm3 (by first | (left; omega) | (right; assumption))], H5⟩
          · (try simp only [beq_iff_eq, bne_iff_ne, ne_eq, decide_eq_true_eq, decide_eq_false_iff_not, beq_eq_false_iff_ne, bne_eq_false_iff_eq, Bool.not_eq_true', Bool.not_eq_false', Bool.not_eq_eq_eq_not, Bool.not_true, Bool.not_false, gt_iff_lt, ge_iff_le, Int.not_lt, Int.not_le] at h3)
            try (exfalso; first | contradiction | omega)
            all_goals
              refine wl_no rfl rfl rfl (by decide) ?_
              refine wl_no rfl rfl rfl (by decide) ?_
              refine wl_no rfl rfl rfl (by decide) ?_
              refine wl_no rfl rfl rfl (by decide) ?_
              refine wl_no rfl rfl rfl (by decide) ?_
              refine wl_val (r_pick_f rfl rfl) (by decide) ?_
              refine wl_nil ?_
              refine wq_seq ?_
              refine wc_cond_f rfl ?_
              refine wc_exit ?_
              refine wq_then_exit ?_
              refine wq_then_exit ?_
              refine wq_block_hit ?_
              refine wq_seq ?_
              refine wc_seq ?_
              refine wc_region ?_
              refine wl_val (r_move rfl) (by decide) ?_
              refine wl_val (r_assign rfl) (by decide) ?_
              refine wl_nil ?_
              refine wq_seq ?_
              refine wc_ret ?_
              refine wq_end1 (.inl rfl) Tryd.results35 rfl ?_
              exact ⟨by rw [wordEndM, hn, over_eq (k := k) hk1 hk2 hk3 (by first | (left; omega) | (right; rw [show letterM (l.getD k 0) = true from by assumption]; rfl)), over_eq (k := k2) hm1 hm2 hm3 (by first | (left; omega) | (right; assumption))], HL⟩
  · (try simp only [beq_iff_eq, bne_iff_ne, ne_eq, decide_eq_true_eq, decide_eq_false_iff_not, beq_eq_false_iff_ne, bne_eq_false_iff_eq, Bool.not_eq_true', Bool.not_eq_false', Bool.not_eq_eq_eq_not, Bool.not_true, Bool.not_false, gt_iff_lt, ge_iff_le, Int.not_lt, Int.not_le] at h1)
    try (exfalso; first | contradiction | omega)
    all_goals
      refine wl_no rfl rfl rfl (by decide) ?_
      refine wl_no rfl rfl rfl (by decide) ?_
      refine wl_no rfl rfl rfl (by decide) ?_
      refine wl_no rfl rfl rfl (by decide) ?_
      refine wl_no rfl rfl rfl (by decide) ?_
      refine wl_no rfl rfl rfl (by decide) ?_
      refine wl_val (r_pick_f rfl rfl) (by decide) ?_
      refine wl_nil ?_
      refine wq_seq ?_
      refine wc_cond_f rfl ?_
      refine wc_exit ?_
      refine wq_then_exit ?_
      refine wq_then_exit ?_
      refine wq_block_hit ?_
      refine wq_seq ?_
      refine wc_seq ?_
      refine wc_block ?_
      refine wc_loop [(0, _)] (fun (k2 : Nat) => [(1, .int .i64 (k2 : Int))]) (fun (k2 : Nat) W => k ≤ k2 ∧ k2 ≤ l.length ∧ (∀ j, k ≤ j → j < k2 → letterM (l.getD j 0) = true) ∧ Holds w0 W F) (fun (k2 : Nat) => l.length - k2) (k) (Sub.cons rfl (Sub.nil _)) (Sub.cons rfl (Sub.nil _)) ⟨by omega, by omega, fun j h8 h9 => absurd h8 (by omega), HL⟩ ?_
      rintro k2 w6 ⟨hm1, hm2, hm3, HL⟩
      dsimp only [List.cons_append, List.nil_append]
      refine wc_seq ?_
      refine wc_seq ?_
      refine wc_region ?_
      refine wl_val (r_move rfl) (by decide) ?_
      refine wl_val (r_move rfl) (by decide) ?_
      refine wl_val (r_len Tryd.underlying22 rfl) (by decide) ?_
      refine wl_val (r_lss rfl rfl) (by decide) ?_
      refine wl_split rfl (by decide) (fun h5 => ?_) (fun h5 => ?_)
      · (try simp only [beq_iff_eq, bne_iff_ne, ne_eq, decide_eq_true_eq, decide_eq_false_iff_not, beq_eq_false_iff_ne, bne_eq_false_iff_eq, Bool.not_eq_true', Bool.not_eq_false', Bool.not_eq_eq_eq_not, Bool.not_true, Bool.not_false, gt_iff_lt, ge_iff_le, Int.not_lt, Int.not_le] at h5)
        try (exfalso; first | contradiction | omega)
        all_goals
          obtain ⟨a', c', hsl, _, _, hcell⟩ := (hr _ HL).open
          cases hsl
          obtain ⟨b, o, hab, hq⟩ := hcell (by omega)
          cases hab
          have hqk := hq k2 (by omega)
          refine wl_yes rfl rfl ?_
          refine wl_val (r_move rfl) (by decide) ?_
          refine wl_yes rfl rfl ?_
          refine wl_val (r_move rfl) (by decide) ?_
          refine wl_yes rfl rfl ?_
          refine wl_val (r_index Tryd.underlying22 Tryd.sizeOf21 rfl rfl (by omega)) (by decide) ?_
          refine wl_yes rfl rfl ?_
          refine wl_val (r_load (plain_of Tryd.underlying21 rfl) rfl (by rw [show (k2 : Int).toNat * 1 = k2 from by omega]; exact hqk)) (by decide) ?_
          refine wl_yes rfl rfl ?_
          refine wl_eff (e_call (r_call rfl Tryd.func66 rfl rfl) (ref_letter_ret HL)) (by decide) ?_
          rintro _ w7 ⟨rfl, H7⟩
          have HN := H7
          refine wl_val (r_pick_t rfl rfl) (by decide) ?_
          refine wl_nil ?_
          refine wq_seq ?_
          refine wc_cond rfl (fun h6 => ?_) (fun h6 => ?_)
          · (try simp only [beq_iff_eq, bne_iff_ne, ne_eq, decide_eq_true_eq, decide_eq_false_iff_not, beq_eq_false_iff_ne, bne_eq_false_iff_eq, Bool.not_eq_true', Bool.not_eq_false', Bool.not_eq_eq_eq_not, Bool.not_true, Bool.not_false, gt_iff_lt, ge_iff_le, Int.not_lt, Int.not_le] at h6)
            try (exfalso; first | contradiction | omega)
            all_goals
              
              refine wc_skip ?_
              refine wq_seq ?_
              refine wc_block ?_
              refine wc_region ?_
              refine wl_val (r_move rfl) (by decide) ?_
              refine wl_val (r_add rfl rfl (by omega)) (by decide) ?_
              refine wl_val (r_assign rfl) (by decide) ?_
              refine wl_nil ?_
              refine wq_block_normal ?_
              refine wq_round (k2 + 1) ?_ ?_ ?_ ?_
              · exact (Sub.cons rfl (Sub.nil _))
              · exact (Sub.cons rfl (Sub.nil _))
              · exact ⟨by omega, by omega, fun j h8 h9 => by by_cases e : j = k2; (subst e; assumption); exact hm3 j h8 (by omega), HN⟩
              · (try dsimp only); omega
          · (try simp only [beq_iff_eq, bne_iff_ne, ne_eq, decide_eq_true_eq, decide_eq_false_iff_not, beq_eq_false_iff_ne, bne_eq_false_iff_eq, Bool.not_eq_true', Bool.not_eq_false', Bool.not_eq_eq_eq_not, Bool.not_true, Bool.not_false, gt_iff_lt, ge_iff_le, Int.not_lt, Int.not_le] at h6)
            try (exfalso; first | contradiction | omega)
            all_goals
              
              refine wc_exit ?_
              refine wq_then_exit ?_
              refine wq_then_exit ?_
              refine wq_block_hit ?_
              refine wq_seq ?_
              refine wc_seq ?_
              refine wc_region ?_
              refine wl_val (r_move rfl) (by decide) ?_
              refine wl_val (r_assign rfl) (by decide) ?_
              refine wl_nil ?_
              refine wq_seq ?_
              refine wc_ret ?_
              refine wq_end1 (.inl rfl) Tryd.results35 rfl ?_
              exact ⟨by rw [wordEndM, hn, over_eq (k := k) hk1 hk2 hk3 (by first | (left; omega) | (right; rw [show letterM (l.getD k 0) = true from by assumption]; rfl)), over_eq (k := k2) hm1 hm2 hm3 (by first | (left; omega) | (right; assumption))], H7⟩
      · (try simp only [beq_iff_eq, bne_iff_ne, ne_eq, decide_eq_true_eq, decide_eq_false_iff_not, beq_eq_false_iff_ne, bne_eq_false_iff_eq, Bool.not_eq_true', Bool.not_eq_false', Bool.not_eq_eq_eq_not, Bool.not_true, Bool.not_false, gt_iff_lt, ge_iff_le, Int.not_lt, Int.not_le] at h5)
        try (exfalso; first | contradiction | omega)
        all_goals
          refine wl_no rfl rfl rfl (by decide) ?_
          refine wl_no rfl rfl rfl (by decide) ?_
          refine wl_no rfl rfl rfl (by decide) ?_
          refine wl_no rfl rfl rfl (by decide) ?_
          refine wl_no rfl rfl rfl (by decide) ?_
          refine wl_val (r_pick_f rfl rfl) (by decide) ?_
          refine wl_nil ?_
          refine wq_seq ?_
          refine wc_cond_f rfl ?_
          refine wc_exit ?_
          refine wq_then_exit ?_
          refine wq_then_exit ?_
          refine wq_block_hit ?_
          refine wq_seq ?_
          refine wc_seq ?_
          refine wc_region ?_
          refine wl_val (r_move rfl) (by decide) ?_
          refine wl_val (r_assign rfl) (by decide) ?_
          refine wl_nil ?_
          refine wq_seq ?_
          refine wc_ret ?_
          refine wq_end1 (.inl rfl) Tryd.results35 rfl ?_
          exact ⟨by rw [wordEndM, hn, over_eq (k := k) hk1 hk2 hk3 (by first | (left; omega) | (right; rw [show letterM (l.getD k 0) = true from by assumption]; rfl)), over_eq (k := k2) hm1 hm2 hm3 (by first | (left; omega) | (right; assumption))], HL⟩
theorem ref_word_start_ret {x : Int} (H : Holds w0 w F) (hr : FRdI w0 F .i32 v l) : Ret Tryd.prog 36 #[v, .int .i64 x] w fun v' w' => v' = .int .i64 (wordStartM l x) ∧ Holds w0 w' F := by
  obtain ⟨a, c, hv, hac, hac2, _⟩ := (hr w H).open
  subst hv
  have hw := withinM_le l.length x
  obtain ⟨n, hn⟩ : ∃ n, withinM l.length x = n := ⟨_, rfl⟩
  rw [hn] at hw
  refine ret_enter Tryd.func36 rfl Tryd.ntmps36 (Nat.le_of_ble_eq_true rfl) ?_
  dsimp only [slots0, Nat.reduceAdd]
  refine wc_seq ?_
  refine wc_region ?_
  refine wl_val (r_assign rfl) (by decide) ?_
  refine wl_nil ?_
  refine wq_seq ?_
  refine wc_seq ?_
  refine wc_region ?_
  refine wl_val (r_move rfl) (by decide) ?_
  refine wl_val (r_move rfl) (by decide) ?_
  refine wl_eff (e_call (r_call rfl Tryd.func64 rfl rfl) (ref_cut_ret)) (by decide) ?_
  rintro _ _ ⟨rfl, rfl⟩
  rw [hn]
  refine wl_val (r_assign rfl) (by decide) ?_
  refine wl_nil ?_
  refine wq_seq ?_
  refine wc_seq ?_
  refine wc_block ?_
  refine wc_loop [(0, _)] (fun (k : Nat) => [(1, .int .i64 (k : Int))]) (fun (k : Nat) W => k ≤ n ∧ (∀ j, k ≤ j → j < n → (!letterM (l.getD j 0)) = true) ∧ Holds w0 W F) (fun (k : Nat) => k) (n) (Sub.cons rfl (Sub.nil _)) (Sub.cons rfl (Sub.nil _)) ⟨by omega, fun j h8 h9 => absurd h8 (by omega), H⟩ ?_
  rintro k w2 ⟨hk1, hk3, HL⟩
  dsimp only [List.cons_append, List.nil_append]
  refine wc_seq ?_
  refine wc_seq ?_
  refine wc_region ?_
  refine wl_val (r_move rfl) (by decide) ?_
  refine wl_val (r_gtr rfl rfl) (by decide) ?_
  refine wl_split rfl (by decide) (fun h1 => ?_) (fun h1 => ?_)
  · (try simp only [beq_iff_eq, bne_iff_ne, ne_eq, decide_eq_true_eq, decide_eq_false_iff_not, beq_eq_false_iff_ne, bne_eq_false_iff_eq, Bool.not_eq_true', Bool.not_eq_false', Bool.not_eq_eq_eq_not, Bool.not_true, Bool.not_false, gt_iff_lt, ge_iff_le, Int.not_lt, Int.not_le] at h1)
    try (exfalso; first | contradiction | omega)
    all_goals
      obtain ⟨a', c', hsl, _, _, hcell⟩ := (hr _ HL).open
      cases hsl
      obtain ⟨b, o, hab, hq⟩ := hcell (by omega)
      cases hab
      have hqk := hq (k - 1) (by omega)
      refine wl_yes rfl rfl ?_
      refine wl_val (r_move rfl) (by decide) ?_
      refine wl_yes rfl rfl ?_
      refine wl_val (r_move rfl) (by decide) ?_
      refine wl_yes rfl rfl ?_
      refine wl_val (r_sub rfl rfl (by omega)) (by decide) ?_
      refine wl_yes rfl rfl ?_
      refine wl_val (r_index Tryd.underlying22 Tryd.sizeOf21 rfl rfl (by omega)) (by decide) ?_
      refine wl_yes rfl rfl ?_
      refine wl_val (r_load (plain_of Tryd.underlying21 rfl) rfl (by rw [show ((k : Int) - 1).toNat * 1 = k - 1 from by omega]; exact hqk)) (by decide) ?_
      refine wl_yes rfl rfl ?_
      refine wl_eff (e_call (r_call rfl Tryd.func66 rfl rfl) (ref_letter_ret HL)) (by decide) ?_
      rintro _ w3 ⟨rfl, H3⟩
      have HN := H3
      refine wl_yes rfl rfl ?_
      refine wl_val (r_not rfl) (by decide) ?_
      refine wl_val (r_pick_t rfl rfl) (by decide) ?_
      refine wl_nil ?_
      refine wq_seq ?_
      refine wc_cond rfl (fun h2 => ?_) (fun h2 => ?_)
      · (try simp only [beq_iff_eq, bne_iff_ne, ne_eq, decide_eq_true_eq, decide_eq_false_iff_not, beq_eq_false_iff_ne, bne_eq_false_iff_eq, Bool.not_eq_true', Bool.not_eq_false', Bool.not_eq_eq_eq_not, Bool.not_true, Bool.not_false, gt_iff_lt, ge_iff_le, Int.not_lt, Int.not_le] at h2)
        try (exfalso; first | contradiction | omega)
        all_goals
          
          refine wc_skip ?_
          refine wq_seq ?_
          refine wc_block ?_
          refine wc_region ?_
          refine wl_val (r_move rfl) (by decide) ?_
          refine wl_val (r_sub rfl rfl (by omega)) (by decide) ?_
          refine wl_val (r_assign rfl) (by decide) ?_
          refine wl_nil ?_
          refine wq_block_normal ?_
          refine wq_round (k - 1) ?_ ?_ ?_ ?_
          · exact (Sub.cons' rfl (by rw [show ((k - 1 : Nat) : Int) = (k : Int) - 1 from by omega]) (Sub.nil _))
          · exact (Sub.cons rfl (Sub.nil _))
          · exact ⟨by omega, fun j h8 h9 => by by_cases e : j = k - 1; (subst e; have h7 := ‹letterM (l.getD (k - 1) 0) = false›; rw [h7]; rfl); exact hk3 j (by omega) h9, HN⟩
          · (try dsimp only); omega
      · (try simp only [beq_iff_eq, bne_iff_ne, ne_eq, decide_eq_true_eq, decide_eq_false_iff_not, beq_eq_false_iff_ne, bne_eq_false_iff_eq, Bool.not_eq_true', Bool.not_eq_false', Bool.not_eq_eq_eq_not, Bool.not_true, Bool.not_false, gt_iff_lt, ge_iff_le, Int.not_lt, Int.not_le] at h2)
        try (exfalso; first | contradiction | omega)
        all_goals
          
          refine wc_exit ?_
          refine wq_then_exit ?_
          refine wq_then_exit ?_
          refine wq_block_hit ?_
          refine wq_seq ?_
          refine wc_seq ?_
          refine wc_block ?_
          refine wc_loop [(0, _)] (fun (k2 : Nat) => [(1, .int .i64 (k2 : Int))]) (fun (k2 : Nat) W => k2 ≤ k ∧ (∀ j, k2 ≤ j → j < k → letterM (l.getD j 0) = true) ∧ Holds w0 W F) (fun (k2 : Nat) => k2) (k) (Sub.cons rfl (Sub.nil _)) (Sub.cons rfl (Sub.nil _)) ⟨by omega, fun j h8 h9 => absurd h8 (by omega), H3⟩ ?_
          rintro k2 w4 ⟨hm1, hm3, HL⟩
          dsimp only [List.cons_append, List.nil_append]
          refine wc_seq ?_
          refine wc_seq ?_
          refine wc_region ?_
          refine wl_val (r_move rfl) (by decide) ?_
          refine wl_val (r_gtr rfl rfl) (by decide) ?_
          refine wl_split rfl (by decide) (fun h3 => ?_) (fun h3 => ?_)
          · (try simp only [beq_iff_eq, bne_iff_ne, ne_eq, decide_eq_true_eq, decide_eq_false_iff_not, beq_eq_false_iff_ne, bne_eq_false_iff_eq, Bool.not_eq_true', Bool.not_eq_false', Bool.not_eq_eq_eq_not, Bool.not_true, Bool.not_false, gt_iff_lt, ge_iff_le, Int.not_lt, Int.not_le] at h3)
            try (exfalso; first | contradiction | omega)
            all_goals
              obtain ⟨a', c', hsl, _, _, hcell⟩ := (hr _ HL).open
              cases hsl
              obtain ⟨b, o, hab, hq⟩ := hcell (by omega)
              cases hab
              have hqk := hq (k2 - 1) (by omega)
              refine wl_yes rfl rfl ?_
              refine wl_val (r_move rfl) (by decide) ?_
              refine wl_yes rfl rfl ?_
              refine wl_val (r_move rfl) (by decide) ?_
              refine wl_yes rfl rfl ?_
              refine wl_val (r_sub rfl rfl (by omega)) (by decide) ?_
              refine wl_yes rfl rfl ?_
              refine wl_val (r_index Tryd.underlying22 Tryd.sizeOf21 rfl rfl (by omega)) (by decide) ?_
              refine wl_yes rfl rfl ?_
              refine wl_val (r_load (plain_of Tryd.underlying21 rfl) rfl (by rw [show ((k2 : Int) - 1).toNat * 1 = k2 - 1 from by omega]; exact hqk)) (by decide) ?_
              refine wl_yes rfl rfl ?_
              refine wl_eff (e_call (r_call rfl Tryd.func66 rfl rfl) (ref_letter_ret HL)) (by decide) ?_
              rintro _ w5 ⟨rfl, H5⟩
              have HN := H5
              refine wl_val (r_pick_t rfl rfl) (by decide) ?_
              refine wl_nil ?_
              refine wq_seq ?_
              refine wc_cond rfl (fun h4 => ?_) (fun h4 => ?_)
              · (try simp only [beq_iff_eq, bne_iff_ne, ne_eq, decide_eq_true_eq, decide_eq_false_iff_not, beq_eq_false_iff_ne, bne_eq_false_iff_eq, Bool.not_eq_true', Bool.not_eq_false', Bool.not_eq_eq_eq_not, Bool.not_true, Bool.not_false, gt_iff_lt, ge_iff_le, Int.not_lt, Int.not_le] at h4)
                try (exfalso; first | contradiction | omega)
                all_goals
                  
                  refine wc_skip ?_
                  refine wq_seq ?_
                  refine wc_block ?_
                  refine wc_region ?_
                  refine wl_val (r_move rfl) (by decide) ?_
                  refine wl_val (r_sub rfl rfl (by omega)) (by decide) ?_
                  refine wl_val (r_assign rfl) (by decide) ?_
                  refine wl_nil ?_
                  refine wq_block_normal ?_
                  refine wq_round (k2 - 1) ?_ ?_ ?_ ?_
                  · exact (Sub.cons' rfl (by rw [show ((k2 - 1 : Nat) : Int) = (k2 : Int) - 1 from by omega]) (Sub.nil _))
                  · exact (Sub.cons rfl (Sub.nil _))
                  · exact ⟨by omega, fun j h8 h9 => by by_cases e : j = k2 - 1; (subst e; assumption); exact hm3 j (by omega) h9, HN⟩
                  · (try dsimp only); omega
              · (try simp only [beq_iff_eq, bne_iff_ne, ne_eq, decide_eq_true_eq, decide_eq_false_iff_not, beq_eq_false_iff_ne, bne_eq_false_iff_eq, Bool.not_eq_true', Bool.not_eq_false', Bool.not_eq_eq_eq_not, Bool.not_true, Bool.not_false, gt_iff_lt, ge_iff_le, Int.not_lt, Int.not_le] at h4)
                try (exfalso; first | contradiction | omega)
                all_goals
                  
                  refine wc_exit ?_
                  refine wq_then_exit ?_
                  refine wq_then_exit ?_
                  refine wq_block_hit ?_
                  refine wq_seq ?_
                  refine wc_seq ?_
                  refine wc_region ?_
                  refine wl_val (r_move rfl) (by decide) ?_
                  refine wl_val (r_assign rfl) (by decide) ?_
                  refine wl_nil ?_
                  refine wq_seq ?_
                  refine wc_ret ?_
                  refine wq_end1 (.inl rfl) Tryd.results36 rfl ?_
                  exact ⟨by rw [wordStartM, hn, back_eq (k := k) hk1 hw hk3 (by first | (left; omega) | (right; rw [show letterM (l.getD (k - 1) 0) = true from by assumption]; rfl)), back_eq (k := k2) hm1 (by omega) hm3 (by first | (left; omega) | (right; assumption))], H5⟩
          · (try simp only [beq_iff_eq, bne_iff_ne, ne_eq, decide_eq_true_eq, decide_eq_false_iff_not, beq_eq_false_iff_ne, bne_eq_false_iff_eq, Bool.not_eq_true', Bool.not_eq_false', Bool.not_eq_eq_eq_not, Bool.not_true, Bool.not_false, gt_iff_lt, ge_iff_le, Int.not_lt, Int.not_le] at h3)
            try (exfalso; first | contradiction | omega)
            all_goals
              refine wl_no rfl rfl rfl (by decide) ?_
              refine wl_no rfl rfl rfl (by decide) ?_
              refine wl_no rfl rfl rfl (by decide) ?_
              refine wl_no rfl rfl rfl (by decide) ?_
              refine wl_no rfl rfl rfl (by decide) ?_
              refine wl_no rfl rfl rfl (by decide) ?_
              refine wl_val (r_pick_f rfl rfl) (by decide) ?_
              refine wl_nil ?_
              refine wq_seq ?_
              refine wc_cond_f rfl ?_
              refine wc_exit ?_
              refine wq_then_exit ?_
              refine wq_then_exit ?_
              refine wq_block_hit ?_
              refine wq_seq ?_
              refine wc_seq ?_
              refine wc_region ?_
              refine wl_val (r_move rfl) (by decide) ?_
              refine wl_val (r_assign rfl) (by decide) ?_
              refine wl_nil ?_
              refine wq_seq ?_
              refine wc_ret ?_
              refine wq_end1 (.inl rfl) Tryd.results36 rfl ?_
              exact ⟨by rw [wordStartM, hn, back_eq (k := k) hk1 hw hk3 (by first | (left; omega) | (right; rw [show letterM (l.getD (k - 1) 0) = true from by assumption]; rfl)), back_eq (k := k2) hm1 (by omega) hm3 (by first | (left; omega) | (right; assumption))], HL⟩
  · (try simp only [beq_iff_eq, bne_iff_ne, ne_eq, decide_eq_true_eq, decide_eq_false_iff_not, beq_eq_false_iff_ne, bne_eq_false_iff_eq, Bool.not_eq_true', Bool.not_eq_false', Bool.not_eq_eq_eq_not, Bool.not_true, Bool.not_false, gt_iff_lt, ge_iff_le, Int.not_lt, Int.not_le] at h1)
    try (exfalso; first | contradiction | omega)
    all_goals
      refine wl_no rfl rfl rfl (by decide) ?_
      refine wl_no rfl rfl rfl (by decide) ?_
      refine wl_no rfl rfl rfl (by decide) ?_
      refine wl_no rfl rfl rfl (by decide) ?_
      refine wl_no rfl rfl rfl (by decide) ?_
      refine wl_no rfl rfl rfl (by decide) ?_
      refine wl_no rfl rfl rfl (by decide) ?_
      refine wl_val (r_pick_f rfl rfl) (by decide) ?_
      refine wl_nil ?_
      refine wq_seq ?_
      refine wc_cond_f rfl ?_
      refine wc_exit ?_
      refine wq_then_exit ?_
      refine wq_then_exit ?_
      refine wq_block_hit ?_
      refine wq_seq ?_
      refine wc_seq ?_
      refine wc_block ?_
      refine wc_loop [(0, _)] (fun (k2 : Nat) => [(1, .int .i64 (k2 : Int))]) (fun (k2 : Nat) W => k2 ≤ k ∧ (∀ j, k2 ≤ j → j < k → letterM (l.getD j 0) = true) ∧ Holds w0 W F) (fun (k2 : Nat) => k2) (k) (Sub.cons rfl (Sub.nil _)) (Sub.cons rfl (Sub.nil _)) ⟨by omega, fun j h8 h9 => absurd h8 (by omega), HL⟩ ?_
      rintro k2 w6 ⟨hm1, hm3, HL⟩
      dsimp only [List.cons_append, List.nil_append]
      refine wc_seq ?_
      refine wc_seq ?_
      refine wc_region ?_
      refine wl_val (r_move rfl) (by decide) ?_
      refine wl_val (r_gtr rfl rfl) (by decide) ?_
      refine wl_split rfl (by decide) (fun h5 => ?_) (fun h5 => ?_)
      · (try simp only [beq_iff_eq, bne_iff_ne, ne_eq, decide_eq_true_eq, decide_eq_false_iff_not, beq_eq_false_iff_ne, bne_eq_false_iff_eq, Bool.not_eq_true', Bool.not_eq_false', Bool.not_eq_eq_eq_not, Bool.not_true, Bool.not_false, gt_iff_lt, ge_iff_le, Int.not_lt, Int.not_le] at h5)
        try (exfalso; first | contradiction | omega)
        all_goals
          obtain ⟨a', c', hsl, _, _, hcell⟩ := (hr _ HL).open
          cases hsl
          obtain ⟨b, o, hab, hq⟩ := hcell (by omega)
          cases hab
          have hqk := hq (k2 - 1) (by omega)
          refine wl_yes rfl rfl ?_
          refine wl_val (r_move rfl) (by decide) ?_
          refine wl_yes rfl rfl ?_
          refine wl_val (r_move rfl) (by decide) ?_
          refine wl_yes rfl rfl ?_
          refine wl_val (r_sub rfl rfl (by omega)) (by decide) ?_
          refine wl_yes rfl rfl ?_
          refine wl_val (r_index Tryd.underlying22 Tryd.sizeOf21 rfl rfl (by omega)) (by decide) ?_
          refine wl_yes rfl rfl ?_
          refine wl_val (r_load (plain_of Tryd.underlying21 rfl) rfl (by rw [show ((k2 : Int) - 1).toNat * 1 = k2 - 1 from by omega]; exact hqk)) (by decide) ?_
          refine wl_yes rfl rfl ?_
          refine wl_eff (e_call (r_call rfl Tryd.func66 rfl rfl) (ref_letter_ret HL)) (by decide) ?_
          rintro _ w7 ⟨rfl, H7⟩
          have HN := H7
          refine wl_val (r_pick_t rfl rfl) (by decide) ?_
          refine wl_nil ?_
          refine wq_seq ?_
          refine wc_cond rfl (fun h6 => ?_) (fun h6 => ?_)
          · (try simp only [beq_iff_eq, bne_iff_ne, ne_eq, decide_eq_true_eq, decide_eq_false_iff_not, beq_eq_false_iff_ne, bne_eq_false_iff_eq, Bool.not_eq_true', Bool.not_eq_false', Bool.not_eq_eq_eq_not, Bool.not_true, Bool.not_false, gt_iff_lt, ge_iff_le, Int.not_lt, Int.not_le] at h6)
            try (exfalso; first | contradiction | omega)
            all_goals
              
              refine wc_skip ?_
              refine wq_seq ?_
              refine wc_block ?_
              refine wc_region ?_
              refine wl_val (r_move rfl) (by decide) ?_
              refine wl_val (r_sub rfl rfl (by omega)) (by decide) ?_
              refine wl_val (r_assign rfl) (by decide) ?_
              refine wl_nil ?_
              refine wq_block_normal ?_
              refine wq_round (k2 - 1) ?_ ?_ ?_ ?_
              · exact (Sub.cons' rfl (by rw [show ((k2 - 1 : Nat) : Int) = (k2 : Int) - 1 from by omega]) (Sub.nil _))
              · exact (Sub.cons rfl (Sub.nil _))
              · exact ⟨by omega, fun j h8 h9 => by by_cases e : j = k2 - 1; (subst e; assumption); exact hm3 j (by omega) h9, HN⟩
              · (try dsimp only); omega
          · (try simp only [beq_iff_eq, bne_iff_ne, ne_eq, decide_eq_true_eq, decide_eq_false_iff_not, beq_eq_false_iff_ne, bne_eq_false_iff_eq, Bool.not_eq_true', Bool.not_eq_false', Bool.not_eq_eq_eq_not, Bool.not_true, Bool.not_false, gt_iff_lt, ge_iff_le, Int.not_lt, Int.not_le] at h6)
            try (exfalso; first | contradiction | omega)
            all_goals
              
              refine wc_exit ?_
              refine wq_then_exit ?_
              refine wq_then_exit ?_
              refine wq_block_hit ?_
              refine wq_seq ?_
              refine wc_seq ?_
              refine wc_region ?_
              refine wl_val (r_move rfl) (by decide) ?_
              refine wl_val (r_assign rfl) (by decide) ?_
              refine wl_nil ?_
              refine wq_seq ?_
              refine wc_ret ?_
              refine wq_end1 (.inl rfl) Tryd.results36 rfl ?_
              exact ⟨by rw [wordStartM, hn, back_eq (k := k) hk1 hw hk3 (by first | (left; omega) | (right; rw [show letterM (l.getD (k - 1) 0) = true from by assumption]; rfl)), back_eq (k := k2) hm1 (by omega) hm3 (by first | (left; omega) | (right; assumption))], H7⟩
      · (try simp only [beq_iff_eq, bne_iff_ne, ne_eq, decide_eq_true_eq, decide_eq_false_iff_not, beq_eq_false_iff_ne, bne_eq_false_iff_eq, Bool.not_eq_true', Bool.not_eq_false', Bool.not_eq_eq_eq_not, Bool.not_true, Bool.not_false, gt_iff_lt, ge_iff_le, Int.not_lt, Int.not_le] at h5)
        try (exfalso; first | contradiction | omega)
        all_goals
          refine wl_no rfl rfl rfl (by decide) ?_
          refine wl_no rfl rfl rfl (by decide) ?_
          refine wl_no rfl rfl rfl (by decide) ?_
          refine wl_no rfl rfl rfl (by decide) ?_
          refine wl_no rfl rfl rfl (by decide) ?_
          refine wl_no rfl rfl rfl (by decide) ?_
          refine wl_val (r_pick_f rfl rfl) (by decide) ?_
          refine wl_nil ?_
          refine wq_seq ?_
          refine wc_cond_f rfl ?_
          refine wc_exit ?_
          refine wq_then_exit ?_
          refine wq_then_exit ?_
          refine wq_block_hit ?_
          refine wq_seq ?_
          refine wc_seq ?_
          refine wc_region ?_
          refine wl_val (r_move rfl) (by decide) ?_
          refine wl_val (r_assign rfl) (by decide) ?_
          refine wl_nil ?_
          refine wq_seq ?_
          refine wc_ret ?_
          refine wq_end1 (.inl rfl) Tryd.results36 rfl ?_
          exact ⟨by rw [wordStartM, hn, back_eq (k := k) hk1 hw hk3 (by first | (left; omega) | (right; rw [show letterM (l.getD (k - 1) 0) = true from by assumption]; rfl)), back_eq (k := k2) hm1 (by omega) hm3 (by first | (left; omega) | (right; assumption))], HL⟩
def blankM (r : Int) : Bool := decide (r = 32 ∨ r = 9)
theorem ref_blank_ret {w : World} {r : Int} : Ret Tryd.prog 68 #[.int .i32 r] w fun v w' => v = .bool (blankM r) ∧ w = w' := by
  refine ret_enter Tryd.func68 rfl Tryd.ntmps68 (Nat.le_of_ble_eq_true rfl) ?_
  dsimp only [slots0, Nat.reduceAdd]
  refine wc_seq ?_
  refine wc_region ?_
  refine wl_val (r_assign rfl) (by decide) ?_
  refine wl_nil ?_
  refine wq_seq ?_
  refine wc_seq ?_
  refine wc_region ?_
  refine wl_val (r_move rfl) (by decide) ?_
  refine wl_val (r_eql rfl rfl) (by decide) ?_
  refine wl_split rfl (by decide) (fun h1 => ?_) (fun h1 => ?_)
  · (try simp only [beq_iff_eq, bne_iff_ne, ne_eq, decide_eq_true_eq, decide_eq_false_iff_not, beq_eq_false_iff_ne, bne_eq_false_iff_eq, Bool.not_eq_true', Bool.not_eq_false', Bool.not_eq_eq_eq_not, Bool.not_true, Bool.not_false, gt_iff_lt, ge_iff_le, Int.not_lt, Int.not_le] at h1)
    try (exfalso; first | contradiction | omega)
    all_goals
      refine wl_no rfl rfl rfl (by decide) ?_
      refine wl_no rfl rfl rfl (by decide) ?_
      refine wl_val (r_pick_t rfl rfl) (by decide) ?_
      refine wl_val (r_assign rfl) (by decide) ?_
      refine wl_nil ?_
      refine wq_seq ?_
      refine wc_ret ?_
      refine wq_end1 (.inl rfl) Tryd.results68 rfl ?_
      refine ⟨?_, rfl⟩; congr 1; first | (symm; rw [blankM, decide_eq_true_eq]; omega) | (symm; rw [blankM, decide_eq_false_iff_not]; omega) | (rw [blankM, Bool.eq_iff_iff]; simp; omega)
  · (try simp only [beq_iff_eq, bne_iff_ne, ne_eq, decide_eq_true_eq, decide_eq_false_iff_not, beq_eq_false_iff_ne, bne_eq_false_iff_eq, Bool.not_eq_true', Bool.not_eq_false', Bool.not_eq_eq_eq_not, Bool.not_true, Bool.not_false, gt_iff_lt, ge_iff_le, Int.not_lt, Int.not_le] at h1)
    try (exfalso; first | contradiction | omega)
    all_goals
      refine wl_yes rfl rfl ?_
      refine wl_val (r_move rfl) (by decide) ?_
      refine wl_yes rfl rfl ?_
      refine wl_val (r_eql rfl rfl) (by decide) ?_
      refine wl_val (r_pick_f rfl rfl) (by decide) ?_
      refine wl_val (r_assign rfl) (by decide) ?_
      refine wl_nil ?_
      refine wq_seq ?_
      refine wc_ret ?_
      refine wq_end1 (.inl rfl) Tryd.results68 rfl ?_
      refine ⟨?_, rfl⟩; congr 1; first | (symm; rw [blankM, decide_eq_true_eq]; omega) | (symm; rw [blankM, decide_eq_false_iff_not]; omega) | (rw [blankM, Bool.eq_iff_iff]; simp; omega)
def blankEndM (l : List Int) (x : Int) : Nat := overM (fun r => !blankM r) l (overM blankM l (withinM l.length x))
def blankStartM (l : List Int) (x : Int) : Nat := backM (fun r => !blankM r) l (backM blankM l (withinM l.length x))
theorem ref_blank_end_ret {x : Int} (H : Holds w0 w F) (hr : FRdI w0 F .i32 v l) : Ret Tryd.prog 40 #[v, .int .i64 x] w fun v' w' => v' = .int .i64 (blankEndM l x) ∧ Holds w0 w' F := by
  obtain ⟨a, c, hv, hac, hac2, _⟩ := (hr w H).open
  subst hv
  have hw := withinM_le l.length x
  obtain ⟨n, hn⟩ : ∃ n, withinM l.length x = n := ⟨_, rfl⟩
  rw [hn] at hw
  refine ret_enter Tryd.func40 rfl Tryd.ntmps40 (Nat.le_of_ble_eq_true rfl) ?_
  dsimp only [slots0, Nat.reduceAdd]
  refine wc_seq ?_
  refine wc_region ?_
  refine wl_val (r_assign rfl) (by decide) ?_
  refine wl_nil ?_
  refine wq_seq ?_
  refine wc_seq ?_
  refine wc_region ?_
  refine wl_val (r_move rfl) (by decide) ?_
  refine wl_val (r_move rfl) (by decide) ?_
  refine wl_eff (e_call (r_call rfl Tryd.func64 rfl rfl) (ref_cut_ret)) (by decide) ?_
  rintro _ _ ⟨rfl, rfl⟩
  rw [hn]
  refine wl_val (r_assign rfl) (by decide) ?_
  refine wl_nil ?_
  refine wq_seq ?_
  refine wc_seq ?_
  refine wc_block ?_
  refine wc_loop [(0, _)] (fun (k : Nat) => [(1, .int .i64 (k : Int))]) (fun (k : Nat) W => n ≤ k ∧ k ≤ l.length ∧ (∀ j, n ≤ j → j < k → blankM (l.getD j 0) = true) ∧ Holds w0 W F) (fun (k : Nat) => l.length - k) (n) (Sub.cons rfl (Sub.nil _)) (Sub.cons rfl (Sub.nil _)) ⟨by omega, by omega, fun j h8 h9 => absurd h8 (by omega), H⟩ ?_
  rintro k w2 ⟨hk1, hk2, hk3, HL⟩
  dsimp only [List.cons_append, List.nil_append]
  refine wc_seq ?_
  refine wc_seq ?_
  refine wc_region ?_
  refine wl_val (r_move rfl) (by decide) ?_
  refine wl_val (r_move rfl) (by decide) ?_
  refine wl_val (r_len Tryd.underlying22 rfl) (by decide) ?_
  refine wl_val (r_lss rfl rfl) (by decide) ?_
  refine wl_split rfl (by decide) (fun h1 => ?_) (fun h1 => ?_)
  · (try simp only [beq_iff_eq, bne_iff_ne, ne_eq, decide_eq_true_eq, decide_eq_false_iff_not, beq_eq_false_iff_ne, bne_eq_false_iff_eq, Bool.not_eq_true', Bool.not_eq_false', Bool.not_eq_eq_eq_not, Bool.not_true, Bool.not_false, gt_iff_lt, ge_iff_le, Int.not_lt, Int.not_le] at h1)
    try (exfalso; first | contradiction | omega)
    all_goals
      obtain ⟨a', c', hsl, _, _, hcell⟩ := (hr _ HL).open
      cases hsl
      obtain ⟨b, o, rfl, hq⟩ := hcell (by omega)
      have hqk := hq k (by omega)
      refine wl_yes rfl rfl ?_
      refine wl_val (r_move rfl) (by decide) ?_
      refine wl_yes rfl rfl ?_
      refine wl_val (r_move rfl) (by decide) ?_
      refine wl_yes rfl rfl ?_
      refine wl_val (r_index Tryd.underlying22 Tryd.sizeOf21 rfl rfl (by omega)) (by decide) ?_
      refine wl_yes rfl rfl ?_
      refine wl_val (r_load (plain_of Tryd.underlying21 rfl) rfl (by rw [show (k : Int).toNat * 1 = k from by omega]; exact hqk)) (by decide) ?_
      refine wl_yes rfl rfl ?_
      refine wl_eff (e_call (r_call rfl Tryd.func68 rfl rfl) (ref_blank_ret)) (by decide) ?_
      rintro _ _ ⟨rfl, rfl⟩
      have HN := HL
      refine wl_val (r_pick_t rfl rfl) (by decide) ?_
      refine wl_nil ?_
      refine wq_seq ?_
      refine wc_cond rfl (fun h2 => ?_) (fun h2 => ?_)
      · (try simp only [beq_iff_eq, bne_iff_ne, ne_eq, decide_eq_true_eq, decide_eq_false_iff_not, beq_eq_false_iff_ne, bne_eq_false_iff_eq, Bool.not_eq_true', Bool.not_eq_false', Bool.not_eq_eq_eq_not, Bool.not_true, Bool.not_false, gt_iff_lt, ge_iff_le, Int.not_lt, Int.not_le] at h2)
        try (exfalso; first | contradiction | omega)
        all_goals
          
          refine wc_skip ?_
          refine wq_seq ?_
          refine wc_block ?_
          refine wc_region ?_
          refine wl_val (r_move rfl) (by decide) ?_
          refine wl_val (r_add rfl rfl (by omega)) (by decide) ?_
          refine wl_val (r_assign rfl) (by decide) ?_
          refine wl_nil ?_
          refine wq_block_normal ?_
          refine wq_round (k + 1) ?_ ?_ ?_ ?_
          · exact (Sub.cons rfl (Sub.nil _))
          · exact (Sub.cons rfl (Sub.nil _))
          · exact ⟨by omega, by omega, fun j h8 h9 => by by_cases e : j = k; (subst e; assumption); exact hk3 j h8 (by omega), HN⟩
          · (try dsimp only); omega
      · (try simp only [beq_iff_eq, bne_iff_ne, ne_eq, decide_eq_true_eq, decide_eq_false_iff_not, beq_eq_false_iff_ne, bne_eq_false_iff_eq, Bool.not_eq_true', Bool.not_eq_false', Bool.not_eq_eq_eq_not, Bool.not_true, Bool.not_false, gt_iff_lt, ge_iff_le, Int.not_lt, Int.not_le] at h2)
        try (exfalso; first | contradiction | omega)
        all_goals
          
          refine wc_exit ?_
          refine wq_then_exit ?_
          refine wq_then_exit ?_
          refine wq_block_hit ?_
          refine wq_seq ?_
          refine wc_seq ?_
          refine wc_block ?_
          refine wc_loop [(0, _)] (fun (k2 : Nat) => [(1, .int .i64 (k2 : Int))]) (fun (k2 : Nat) W => k ≤ k2 ∧ k2 ≤ l.length ∧ (∀ j, k ≤ j → j < k2 → (!blankM (l.getD j 0)) = true) ∧ Holds w0 W F) (fun (k2 : Nat) => l.length - k2) (k) (Sub.cons rfl (Sub.nil _)) (Sub.cons rfl (Sub.nil _)) ⟨by omega, by omega, fun j h8 h9 => absurd h8 (by omega), HL⟩ ?_
          rintro k2 w4 ⟨hm1, hm2, hm3, HL⟩
          dsimp only [List.cons_append, List.nil_append]
          refine wc_seq ?_
          refine wc_seq ?_
          refine wc_region ?_
          refine wl_val (r_move rfl) (by decide) ?_
          refine wl_val (r_move rfl) (by decide) ?_
          refine wl_val (r_len Tryd.underlying22 rfl) (by decide) ?_
          refine wl_val (r_lss rfl rfl) (by decide) ?_
          refine wl_split rfl (by decide) (fun h3 => ?_) (fun h3 => ?_)
          · (try simp only [beq_iff_eq, bne_iff_ne, ne_eq, decide_eq_true_eq, decide_eq_false_iff_not, beq_eq_false_iff_ne, bne_eq_false_iff_eq, Bool.not_eq_true', Bool.not_eq_false', Bool.not_eq_eq_eq_not, Bool.not_true, Bool.not_false, gt_iff_lt, ge_iff_le, Int.not_lt, Int.not_le] at h3)
            try (exfalso; first | contradiction | omega)
            all_goals
              obtain ⟨a', c', hsl, _, _, hcell⟩ := (hr _ HL).open
              cases hsl
              obtain ⟨b, o, hab, hq⟩ := hcell (by omega)
              cases hab
              have hqk := hq k2 (by omega)
              refine wl_yes rfl rfl ?_
              refine wl_val (r_move rfl) (by decide) ?_
              refine wl_yes rfl rfl ?_
              refine wl_val (r_move rfl) (by decide) ?_
              refine wl_yes rfl rfl ?_
              refine wl_val (r_index Tryd.underlying22 Tryd.sizeOf21 rfl rfl (by omega)) (by decide) ?_
              refine wl_yes rfl rfl ?_
              refine wl_val (r_load (plain_of Tryd.underlying21 rfl) rfl (by rw [show (k2 : Int).toNat * 1 = k2 from by omega]; exact hqk)) (by decide) ?_
              refine wl_yes rfl rfl ?_
              refine wl_eff (e_call (r_call rfl Tryd.func68 rfl rfl) (ref_blank_ret)) (by decide) ?_
              rintro _ _ ⟨rfl, rfl⟩
              have HN := HL
              refine wl_yes rfl rfl ?_
              refine wl_val (r_not rfl) (by decide) ?_
              refine wl_val (r_pick_t rfl rfl) (by decide) ?_
              refine wl_nil ?_
              refine wq_seq ?_
              refine wc_cond rfl (fun h4 => ?_) (fun h4 => ?_)
              · (try simp only [beq_iff_eq, bne_iff_ne, ne_eq, decide_eq_true_eq, decide_eq_false_iff_not, beq_eq_false_iff_ne, bne_eq_false_iff_eq, Bool.not_eq_true', Bool.not_eq_false', Bool.not_eq_eq_eq_not, Bool.not_true, Bool.not_false, gt_iff_lt, ge_iff_le, Int.not_lt, Int.not_le] at h4)
                try (exfalso; first | contradiction | omega)
                all_goals
                  
                  refine wc_skip ?_
                  refine wq_seq ?_
                  refine wc_block ?_
                  refine wc_region ?_
                  refine wl_val (r_move rfl) (by decide) ?_
                  refine wl_val (r_add rfl rfl (by omega)) (by decide) ?_
                  refine wl_val (r_assign rfl) (by decide) ?_
                  refine wl_nil ?_
                  refine wq_block_normal ?_
                  refine wq_round (k2 + 1) ?_ ?_ ?_ ?_
                  · exact (Sub.cons rfl (Sub.nil _))
                  · exact (Sub.cons rfl (Sub.nil _))
                  · exact ⟨by omega, by omega, fun j h8 h9 => by by_cases e : j = k2; (subst e; have h7 := ‹blankM (l.getD j 0) = false›; rw [h7]; rfl); exact hm3 j h8 (by omega), HN⟩
                  · (try dsimp only); omega
              · (try simp only [beq_iff_eq, bne_iff_ne, ne_eq, decide_eq_true_eq, decide_eq_false_iff_not, beq_eq_false_iff_ne, bne_eq_false_iff_eq, Bool.not_eq_true', Bool.not_eq_false', Bool.not_eq_eq_eq_not, Bool.not_true, Bool.not_false, gt_iff_lt, ge_iff_le, Int.not_lt, Int.not_le] at h4)
                try (exfalso; first | contradiction | omega)
                all_goals
                  
                  refine wc_exit ?_
                  refine wq_then_exit ?_
                  refine wq_then_exit ?_
                  refine wq_block_hit ?_
                  refine wq_seq ?_
                  refine wc_seq ?_
                  refine wc_region ?_
                  refine wl_val (r_move rfl) (by decide) ?_
                  refine wl_val (r_assign rfl) (by decide) ?_
                  refine wl_nil ?_
                  refine wq_seq ?_
                  refine wc_ret ?_
                  refine wq_end1 (.inl rfl) Tryd.results40 rfl ?_
                  exact ⟨by rw [blankEndM, hn, over_eq (k := k) hk1 hk2 hk3 (by first | (left; omega) | (right; assumption)), over_eq (k := k2) hm1 hm2 hm3 (by first | (left; omega) | (right; rw [show blankM (l.getD k2 0) = true from by assumption]; rfl))], HL⟩
          · (try simp only [beq_iff_eq, bne_iff_ne, ne_eq, decide_eq_true_eq, decide_eq_false_iff_not, beq_eq_false_iff_ne, bne_eq_false_iff_eq, Bool.not_eq_true', Bool.not_eq_false', Bool.not_eq_eq_eq_not, Bool.not_true, Bool.not_false, gt_iff_lt, ge_iff_le, Int.not_lt, Int.not_le] at h3)
            try (exfalso; first | contradiction | omega)
            all_goals
              refine wl_no rfl rfl rfl (by decide) ?_
              refine wl_no rfl rfl rfl (by decide) ?_
              refine wl_no rfl rfl rfl (by decide) ?_
              refine wl_no rfl rfl rfl (by decide) ?_
              refine wl_no rfl rfl rfl (by decide) ?_
              refine wl_no rfl rfl rfl (by decide) ?_
              refine wl_val (r_pick_f rfl rfl) (by decide) ?_
              refine wl_nil ?_
              refine wq_seq ?_
              refine wc_cond_f rfl ?_
              refine wc_exit ?_
              refine wq_then_exit ?_
              refine wq_then_exit ?_
              refine wq_block_hit ?_
              refine wq_seq ?_
              refine wc_seq ?_
              refine wc_region ?_
              refine wl_val (r_move rfl) (by decide) ?_
              refine wl_val (r_assign rfl) (by decide) ?_
              refine wl_nil ?_
              refine wq_seq ?_
              refine wc_ret ?_
              refine wq_end1 (.inl rfl) Tryd.results40 rfl ?_
              exact ⟨by rw [blankEndM, hn, over_eq (k := k) hk1 hk2 hk3 (by first | (left; omega) | (right; assumption)), over_eq (k := k2) hm1 hm2 hm3 (by first | (left; omega) | (right; rw [show blankM (l.getD k2 0) = true from by assumption]; rfl))], HL⟩
  · (try simp only [beq_iff_eq, bne_iff_ne, ne_eq, decide_eq_true_eq, decide_eq_false_iff_not, beq_eq_false_iff_ne, bne_eq_false_iff_eq, Bool.not_eq_true', Bool.not_eq_false', Bool.not_eq_eq_eq_not, Bool.not_true, Bool.not_false, gt_iff_lt, ge_iff_le, Int.not_lt, Int.not_le] at h1)
    try (exfalso; first | contradiction | omega)
    all_goals
      refine wl_no rfl rfl rfl (by decide) ?_
      refine wl_no rfl rfl rfl (by decide) ?_
      refine wl_no rfl rfl rfl (by decide) ?_
      refine wl_no rfl rfl rfl (by decide) ?_
      refine wl_no rfl rfl rfl (by decide) ?_
      refine wl_val (r_pick_f rfl rfl) (by decide) ?_
      refine wl_nil ?_
      refine wq_seq ?_
      refine wc_cond_f rfl ?_
      refine wc_exit ?_
      refine wq_then_exit ?_
      refine wq_then_exit ?_
      refine wq_block_hit ?_
      refine wq_seq ?_
      refine wc_seq ?_
      refine wc_block ?_
      refine wc_loop [(0, _)] (fun (k2 : Nat) => [(1, .int .i64 (k2 : Int))]) (fun (k2 : Nat) W => k ≤ k2 ∧ k2 ≤ l.length ∧ (∀ j, k ≤ j → j < k2 → (!blankM (l.getD j 0)) = true) ∧ Holds w0 W F) (fun (k2 : Nat) => l.length - k2) (k) (Sub.cons rfl (Sub.nil _)) (Sub.cons rfl (Sub.nil _)) ⟨by omega, by omega, fun j h8 h9 => absurd h8 (by omega), HL⟩ ?_
      rintro k2 w6 ⟨hm1, hm2, hm3, HL⟩
      dsimp only [List.cons_append, List.nil_append]
      refine wc_seq ?_
      refine wc_seq ?_
      refine wc_region ?_
      refine wl_val (r_move rfl) (by decide) ?_
      refine wl_val (r_move rfl) (by decide) ?_
      refine wl_val (r_len Tryd.underlying22 rfl) (by decide) ?_
      refine wl_val (r_lss rfl rfl) (by decide) ?_
      refine wl_split rfl (by decide) (fun h5 => ?_) (fun h5 => ?_)
      · (try simp only [beq_iff_eq, bne_iff_ne, ne_eq, decide_eq_true_eq, decide_eq_false_iff_not, beq_eq_false_iff_ne, bne_eq_false_iff_eq, Bool.not_eq_true', Bool.not_eq_false', Bool.not_eq_eq_eq_not, Bool.not_true, Bool.not_false, gt_iff_lt, ge_iff_le, Int.not_lt, Int.not_le] at h5)
        try (exfalso; first | contradiction | omega)
        all_goals
          obtain ⟨a', c', hsl, _, _, hcell⟩ := (hr _ HL).open
          cases hsl
          obtain ⟨b, o, hab, hq⟩ := hcell (by omega)
          cases hab
          have hqk := hq k2 (by omega)
          refine wl_yes rfl rfl ?_
          refine wl_val (r_move rfl) (by decide) ?_
          refine wl_yes rfl rfl ?_
          refine wl_val (r_move rfl) (by decide) ?_
          refine wl_yes rfl rfl ?_
          refine wl_val (r_index Tryd.underlying22 Tryd.sizeOf21 rfl rfl (by omega)) (by decide) ?_
          refine wl_yes rfl rfl ?_
          refine wl_val (r_load (plain_of Tryd.underlying21 rfl) rfl (by rw [show (k2 : Int).toNat * 1 = k2 from by omega]; exact hqk)) (by decide) ?_
          refine wl_yes rfl rfl ?_
          refine wl_eff (e_call (r_call rfl Tryd.func68 rfl rfl) (ref_blank_ret)) (by decide) ?_
          rintro _ _ ⟨rfl, rfl⟩
          have HN := HL
          refine wl_yes rfl rfl ?_
          refine wl_val (r_not rfl) (by decide) ?_
          refine wl_val (r_pick_t rfl rfl) (by decide) ?_
          refine wl_nil ?_
          refine wq_seq ?_
          refine wc_cond rfl (fun h6 => ?_) (fun h6 => ?_)
          · (try simp only [beq_iff_eq, bne_iff_ne, ne_eq, decide_eq_true_eq, decide_eq_false_iff_not, beq_eq_false_iff_ne, bne_eq_false_iff_eq, Bool.not_eq_true', Bool.not_eq_false', Bool.not_eq_eq_eq_not, Bool.not_true, Bool.not_false, gt_iff_lt, ge_iff_le, Int.not_lt, Int.not_le] at h6)
            try (exfalso; first | contradiction | omega)
            all_goals
              
              refine wc_skip ?_
              refine wq_seq ?_
              refine wc_block ?_
              refine wc_region ?_
              refine wl_val (r_move rfl) (by decide) ?_
              refine wl_val (r_add rfl rfl (by omega)) (by decide) ?_
              refine wl_val (r_assign rfl) (by decide) ?_
              refine wl_nil ?_
              refine wq_block_normal ?_
              refine wq_round (k2 + 1) ?_ ?_ ?_ ?_
              · exact (Sub.cons rfl (Sub.nil _))
              · exact (Sub.cons rfl (Sub.nil _))
              · exact ⟨by omega, by omega, fun j h8 h9 => by by_cases e : j = k2; (subst e; have h7 := ‹blankM (l.getD j 0) = false›; rw [h7]; rfl); exact hm3 j h8 (by omega), HN⟩
              · (try dsimp only); omega
          · (try simp only [beq_iff_eq, bne_iff_ne, ne_eq, decide_eq_true_eq, decide_eq_false_iff_not, beq_eq_false_iff_ne, bne_eq_false_iff_eq, Bool.not_eq_true', Bool.not_eq_false', Bool.not_eq_eq_eq_not, Bool.not_true, Bool.not_false, gt_iff_lt, ge_iff_le, Int.not_lt, Int.not_le] at h6)
            try (exfalso; first | contradiction | omega)
            all_goals
              
              refine wc_exit ?_
              refine wq_then_exit ?_
              refine wq_then_exit ?_
              refine wq_block_hit ?_
              refine wq_seq ?_
              refine wc_seq ?_
              refine wc_region ?_
              refine wl_val (r_move rfl) (by decide) ?_
              refine wl_val (r_assign rfl) (by decide) ?_
              refine wl_nil ?_
              refine wq_seq ?_
              refine wc_ret ?_
              refine wq_end1 (.inl rfl) Tryd.results40 rfl ?_
              exact ⟨by rw [blankEndM, hn, over_eq (k := k) hk1 hk2 hk3 (by first | (left; omega) | (right; assumption)), over_eq (k := k2) hm1 hm2 hm3 (by first | (left; omega) | (right; rw [show blankM (l.getD k2 0) = true from by assumption]; rfl))], HL⟩
      · (try simp only [beq_iff_eq, bne_iff_ne, ne_eq, decide_eq_true_eq, decide_eq_false_iff_not, beq_eq_false_iff_ne, bne_eq_false_iff_eq, Bool.not_eq_true', Bool.not_eq_false', Bool.not_eq_eq_eq_not, Bool.not_true, Bool.not_false, gt_iff_lt, ge_iff_le, Int.not_lt, Int.not_le] at h5)
        try (exfalso; first | contradiction | omega)
        all_goals
          refine wl_no rfl rfl rfl (by decide) ?_
          refine wl_no rfl rfl rfl (by decide) ?_
          refine wl_no rfl rfl rfl (by decide) ?_
          refine wl_no rfl rfl rfl (by decide) ?_
          refine wl_no rfl rfl rfl (by decide) ?_
          refine wl_no rfl rfl rfl (by decide) ?_
          refine wl_val (r_pick_f rfl rfl) (by decide) ?_
          refine wl_nil ?_
          refine wq_seq ?_
          refine wc_cond_f rfl ?_
          refine wc_exit ?_
          refine wq_then_exit ?_
          refine wq_then_exit ?_
          refine wq_block_hit ?_
          refine wq_seq ?_
          refine wc_seq ?_
          refine wc_region ?_
          refine wl_val (r_move rfl) (by decide) ?_
          refine wl_val (r_assign rfl) (by decide) ?_
          refine wl_nil ?_
          refine wq_seq ?_
          refine wc_ret ?_
          refine wq_end1 (.inl rfl) Tryd.results40 rfl ?_
          exact ⟨by rw [blankEndM, hn, over_eq (k := k) hk1 hk2 hk3 (by first | (left; omega) | (right; assumption)), over_eq (k := k2) hm1 hm2 hm3 (by first | (left; omega) | (right; rw [show blankM (l.getD k2 0) = true from by assumption]; rfl))], HL⟩
theorem ref_blank_start_ret {x : Int} (H : Holds w0 w F) (hr : FRdI w0 F .i32 v l) : Ret Tryd.prog 38 #[v, .int .i64 x] w fun v' w' => v' = .int .i64 (blankStartM l x) ∧ Holds w0 w' F := by
  obtain ⟨a, c, hv, hac, hac2, _⟩ := (hr w H).open
  subst hv
  have hw := withinM_le l.length x
  obtain ⟨n, hn⟩ : ∃ n, withinM l.length x = n := ⟨_, rfl⟩
  rw [hn] at hw
  refine ret_enter Tryd.func38 rfl Tryd.ntmps38 (Nat.le_of_ble_eq_true rfl) ?_
  dsimp only [slots0, Nat.reduceAdd]
  refine wc_seq ?_
  refine wc_region ?_
  refine wl_val (r_assign rfl) (by decide) ?_
  refine wl_nil ?_
  refine wq_seq ?_
  refine wc_seq ?_
  refine wc_region ?_
  refine wl_val (r_move rfl) (by decide) ?_
  refine wl_val (r_move rfl) (by decide) ?_
  refine wl_eff (e_call (r_call rfl Tryd.func64 rfl rfl) (ref_cut_ret)) (by decide) ?_
  rintro _ _ ⟨rfl, rfl⟩
  rw [hn]
  refine wl_val (r_assign rfl) (by decide) ?_
  refine wl_nil ?_
  refine wq_seq ?_
  refine wc_seq ?_
  refine wc_block ?_
  refine wc_loop [(0, _)] (fun (k : Nat) => [(1, .int .i64 (k : Int))]) (fun (k : Nat) W => k ≤ n ∧ (∀ j, k ≤ j → j < n → blankM (l.getD j 0) = true) ∧ Holds w0 W F) (fun (k : Nat) => k) (n) (Sub.cons rfl (Sub.nil _)) (Sub.cons rfl (Sub.nil _)) ⟨by omega, fun j h8 h9 => absurd h8 (by omega), H⟩ ?_
  rintro k w2 ⟨hk1, hk3, HL⟩
  dsimp only [List.cons_append, List.nil_append]
  refine wc_seq ?_
  refine wc_seq ?_
  refine wc_region ?_
  refine wl_val (r_move rfl) (by decide) ?_
  refine wl_val (r_gtr rfl rfl) (by decide) ?_
  refine wl_split rfl (by decide) (fun h1 => ?_) (fun h1 => ?_)
  · (try simp only [beq_iff_eq, bne_iff_ne, ne_eq, decide_eq_true_eq, decide_eq_false_iff_not, beq_eq_false_iff_ne, bne_eq_false_iff_eq, Bool.not_eq_true', Bool.not_eq_false', Bool.not_eq_eq_eq_not, Bool.not_true, Bool.not_false, gt_iff_lt, ge_iff_le, Int.not_lt, Int.not_le] at h1)
    try (exfalso; first | contradiction | omega)
    all_goals
      obtain ⟨a', c', hsl, _, _, hcell⟩ := (hr _ HL).open
      cases hsl
      obtain ⟨b, o, hab, hq⟩ := hcell (by omega)
      cases hab
      have hqk := hq (k - 1) (by omega)
      refine wl_yes rfl rfl ?_
      refine wl_val (r_move rfl) (by decide) ?_
      refine wl_yes rfl rfl ?_
      refine wl_val (r_move rfl) (by decide) ?_
      refine wl_yes rfl rfl ?_
      refine wl_val (r_sub rfl rfl (by omega)) (by decide) ?_
      refine wl_yes rfl rfl ?_
      refine wl_val (r_index Tryd.underlying22 Tryd.sizeOf21 rfl rfl (by omega)) (by decide) ?_
      refine wl_yes rfl rfl ?_
      refine wl_val (r_load (plain_of Tryd.underlying21 rfl) rfl (by rw [show ((k : Int) - 1).toNat * 1 = k - 1 from by omega]; exact hqk)) (by decide) ?_
      refine wl_yes rfl rfl ?_
      refine wl_eff (e_call (r_call rfl Tryd.func68 rfl rfl) (ref_blank_ret)) (by decide) ?_
      rintro _ _ ⟨rfl, rfl⟩
      have HN := HL
      refine wl_val (r_pick_t rfl rfl) (by decide) ?_
      refine wl_nil ?_
      refine wq_seq ?_
      refine wc_cond rfl (fun h2 => ?_) (fun h2 => ?_)
      · (try simp only [beq_iff_eq, bne_iff_ne, ne_eq, decide_eq_true_eq, decide_eq_false_iff_not, beq_eq_false_iff_ne, bne_eq_false_iff_eq, Bool.not_eq_true', Bool.not_eq_false', Bool.not_eq_eq_eq_not, Bool.not_true, Bool.not_false, gt_iff_lt, ge_iff_le, Int.not_lt, Int.not_le] at h2)
        try (exfalso; first | contradiction | omega)
        all_goals
          
          refine wc_skip ?_
          refine wq_seq ?_
          refine wc_block ?_
          refine wc_region ?_
          refine wl_val (r_move rfl) (by decide) ?_
          refine wl_val (r_sub rfl rfl (by omega)) (by decide) ?_
          refine wl_val (r_assign rfl) (by decide) ?_
          refine wl_nil ?_
          refine wq_block_normal ?_
          refine wq_round (k - 1) ?_ ?_ ?_ ?_
          · exact (Sub.cons' rfl (by rw [show ((k - 1 : Nat) : Int) = (k : Int) - 1 from by omega]) (Sub.nil _))
          · exact (Sub.cons rfl (Sub.nil _))
          · exact ⟨by omega, fun j h8 h9 => by by_cases e : j = k - 1; (subst e; assumption); exact hk3 j (by omega) h9, HN⟩
          · (try dsimp only); omega
      · (try simp only [beq_iff_eq, bne_iff_ne, ne_eq, decide_eq_true_eq, decide_eq_false_iff_not, beq_eq_false_iff_ne, bne_eq_false_iff_eq, Bool.not_eq_true', Bool.not_eq_false', Bool.not_eq_eq_eq_not, Bool.not_true, Bool.not_false, gt_iff_lt, ge_iff_le, Int.not_lt, Int.not_le] at h2)
        try (exfalso; first | contradiction | omega)
        all_goals
          
          refine wc_exit ?_
          refine wq_then_exit ?_
          refine wq_then_exit ?_
          refine wq_block_hit ?_
          refine wq_seq ?_
          refine wc_seq ?_
          refine wc_block ?_
          refine wc_loop [(0, _)] (fun (k2 : Nat) => [(1, .int .i64 (k2 : Int))]) (fun (k2 : Nat) W => k2 ≤ k ∧ (∀ j, k2 ≤ j → j < k → (!blankM (l.getD j 0)) = true) ∧ Holds w0 W F) (fun (k2 : Nat) => k2) (k) (Sub.cons rfl (Sub.nil _)) (Sub.cons rfl (Sub.nil _)) ⟨by omega, fun j h8 h9 => absurd h8 (by omega), HL⟩ ?_
          rintro k2 w4 ⟨hm1, hm3, HL⟩
          dsimp only [List.cons_append, List.nil_append]
          refine wc_seq ?_
          refine wc_seq ?_
          refine wc_region ?_
          refine wl_val (r_move rfl) (by decide) ?_
          refine wl_val (r_gtr rfl rfl) (by decide) ?_
          refine wl_split rfl (by decide) (fun h3 => ?_) (fun h3 => ?_)
          · (try simp only [beq_iff_eq, bne_iff_ne, ne_eq, decide_eq_true_eq, decide_eq_false_iff_not, beq_eq_false_iff_ne, bne_eq_false_iff_eq, Bool.not_eq_true', Bool.not_eq_false', Bool.not_eq_eq_eq_not, Bool.not_true, Bool.not_false, gt_iff_lt, ge_iff_le, Int.not_lt, Int.not_le] at h3)
            try (exfalso; first | contradiction | omega)
            all_goals
              obtain ⟨a', c', hsl, _, _, hcell⟩ := (hr _ HL).open
              cases hsl
              obtain ⟨b, o, hab, hq⟩ := hcell (by omega)
              cases hab
              have hqk := hq (k2 - 1) (by omega)
              refine wl_yes rfl rfl ?_
              refine wl_val (r_move rfl) (by decide) ?_
              refine wl_yes rfl rfl ?_
              refine wl_val (r_move rfl) (by decide) ?_
              refine wl_yes rfl rfl ?_
              refine wl_val (r_sub rfl rfl (by omega)) (by decide) ?_
              refine wl_yes rfl rfl ?_
              refine wl_val (r_index Tryd.underlying22 Tryd.sizeOf21 rfl rfl (by omega)) (by decide) ?_
              refine wl_yes rfl rfl ?_
              refine wl_val (r_load (plain_of Tryd.underlying21 rfl) rfl (by rw [show ((k2 : Int) - 1).toNat * 1 = k2 - 1 from by omega]; exact hqk)) (by decide) ?_
              refine wl_yes rfl rfl ?_
              refine wl_eff (e_call (r_call rfl Tryd.func68 rfl rfl) (ref_blank_ret)) (by decide) ?_
              rintro _ _ ⟨rfl, rfl⟩
              have HN := HL
              refine wl_yes rfl rfl ?_
              refine wl_val (r_not rfl) (by decide) ?_
              refine wl_val (r_pick_t rfl rfl) (by decide) ?_
              refine wl_nil ?_
              refine wq_seq ?_
              refine wc_cond rfl (fun h4 => ?_) (fun h4 => ?_)
              · (try simp only [beq_iff_eq, bne_iff_ne, ne_eq, decide_eq_true_eq, decide_eq_false_iff_not, beq_eq_false_iff_ne, bne_eq_false_iff_eq, Bool.not_eq_true', Bool.not_eq_false', Bool.not_eq_eq_eq_not, Bool.not_true, Bool.not_false, gt_iff_lt, ge_iff_le, Int.not_lt, Int.not_le] at h4)
                try (exfalso; first | contradiction | omega)
                all_goals
                  
                  refine wc_skip ?_
                  refine wq_seq ?_
                  refine wc_block ?_
                  refine wc_region ?_
                  refine wl_val (r_move rfl) (by decide) ?_
                  refine wl_val (r_sub rfl rfl (by omega)) (by decide) ?_
                  refine wl_val (r_assign rfl) (by decide) ?_
                  refine wl_nil ?_
                  refine wq_block_normal ?_
                  refine wq_round (k2 - 1) ?_ ?_ ?_ ?_
                  · exact (Sub.cons' rfl (by rw [show ((k2 - 1 : Nat) : Int) = (k2 : Int) - 1 from by omega]) (Sub.nil _))
                  · exact (Sub.cons rfl (Sub.nil _))
                  · exact ⟨by omega, fun j h8 h9 => by by_cases e : j = k2 - 1; (subst e; have h7 := ‹blankM (l.getD (k2 - 1) 0) = false›; rw [h7]; rfl); exact hm3 j (by omega) h9, HN⟩
                  · (try dsimp only); omega
              · (try simp only [beq_iff_eq, bne_iff_ne, ne_eq, decide_eq_true_eq, decide_eq_false_iff_not, beq_eq_false_iff_ne, bne_eq_false_iff_eq, Bool.not_eq_true', Bool.not_eq_false', Bool.not_eq_eq_eq_not, Bool.not_true, Bool.not_false, gt_iff_lt, ge_iff_le, Int.not_lt, Int.not_le] at h4)
                try (exfalso; first | contradiction | omega)
                all_goals
                  
                  refine wc_exit ?_
                  refine wq_then_exit ?_
                  refine wq_then_exit ?_
                  refine wq_block_hit ?_
                  refine wq_seq ?_
                  refine wc_seq ?_
                  refine wc_region ?_
                  refine wl_val (r_move rfl) (by decide) ?_
                  refine wl_val (r_assign rfl) (by decide) ?_
                  refine wl_nil ?_
                  refine wq_seq ?_
                  refine wc_ret ?_
                  refine wq_end1 (.inl rfl) Tryd.results38 rfl ?_
                  exact ⟨by rw [blankStartM, hn, back_eq (k := k) hk1 hw hk3 (by first | (left; omega) | (right; assumption)), back_eq (k := k2) hm1 (by omega) hm3 (by first | (left; omega) | (right; rw [show blankM (l.getD (k2 - 1) 0) = true from by assumption]; rfl))], HL⟩
          · (try simp only [beq_iff_eq, bne_iff_ne, ne_eq, decide_eq_true_eq, decide_eq_false_iff_not, beq_eq_false_iff_ne, bne_eq_false_iff_eq, Bool.not_eq_true', Bool.not_eq_false', Bool.not_eq_eq_eq_not, Bool.not_true, Bool.not_false, gt_iff_lt, ge_iff_le, Int.not_lt, Int.not_le] at h3)
            try (exfalso; first | contradiction | omega)
            all_goals
              refine wl_no rfl rfl rfl (by decide) ?_
              refine wl_no rfl rfl rfl (by decide) ?_
              refine wl_no rfl rfl rfl (by decide) ?_
              refine wl_no rfl rfl rfl (by decide) ?_
              refine wl_no rfl rfl rfl (by decide) ?_
              refine wl_no rfl rfl rfl (by decide) ?_
              refine wl_no rfl rfl rfl (by decide) ?_
              refine wl_val (r_pick_f rfl rfl) (by decide) ?_
              refine wl_nil ?_
              refine wq_seq ?_
              refine wc_cond_f rfl ?_
              refine wc_exit ?_
              refine wq_then_exit ?_
              refine wq_then_exit ?_
              refine wq_block_hit ?_
              refine wq_seq ?_
              refine wc_seq ?_
              refine wc_region ?_
              refine wl_val (r_move rfl) (by decide) ?_
              refine wl_val (r_assign rfl) (by decide) ?_
              refine wl_nil ?_
              refine wq_seq ?_
              refine wc_ret ?_
              refine wq_end1 (.inl rfl) Tryd.results38 rfl ?_
              exact ⟨by rw [blankStartM, hn, back_eq (k := k) hk1 hw hk3 (by first | (left; omega) | (right; assumption)), back_eq (k := k2) hm1 (by omega) hm3 (by first | (left; omega) | (right; rw [show blankM (l.getD (k2 - 1) 0) = true from by assumption]; rfl))], HL⟩
  · (try simp only [beq_iff_eq, bne_iff_ne, ne_eq, decide_eq_true_eq, decide_eq_false_iff_not, beq_eq_false_iff_ne, bne_eq_false_iff_eq, Bool.not_eq_true', Bool.not_eq_false', Bool.not_eq_eq_eq_not, Bool.not_true, Bool.not_false, gt_iff_lt, ge_iff_le, Int.not_lt, Int.not_le] at h1)
    try (exfalso; first | contradiction | omega)
    all_goals
      refine wl_no rfl rfl rfl (by decide) ?_
      refine wl_no rfl rfl rfl (by decide) ?_
      refine wl_no rfl rfl rfl (by decide) ?_
      refine wl_no rfl rfl rfl (by decide) ?_
      refine wl_no rfl rfl rfl (by decide) ?_
      refine wl_no rfl rfl rfl (by decide) ?_
      refine wl_val (r_pick_f rfl rfl) (by decide) ?_
      refine wl_nil ?_
      refine wq_seq ?_
      refine wc_cond_f rfl ?_
      refine wc_exit ?_
      refine wq_then_exit ?_
      refine wq_then_exit ?_
      refine wq_block_hit ?_
      refine wq_seq ?_
      refine wc_seq ?_
      refine wc_block ?_
      refine wc_loop [(0, _)] (fun (k2 : Nat) => [(1, .int .i64 (k2 : Int))]) (fun (k2 : Nat) W => k2 ≤ k ∧ (∀ j, k2 ≤ j → j < k → (!blankM (l.getD j 0)) = true) ∧ Holds w0 W F) (fun (k2 : Nat) => k2) (k) (Sub.cons rfl (Sub.nil _)) (Sub.cons rfl (Sub.nil _)) ⟨by omega, fun j h8 h9 => absurd h8 (by omega), HL⟩ ?_
      rintro k2 w6 ⟨hm1, hm3, HL⟩
      dsimp only [List.cons_append, List.nil_append]
      refine wc_seq ?_
      refine wc_seq ?_
      refine wc_region ?_
      refine wl_val (r_move rfl) (by decide) ?_
      refine wl_val (r_gtr rfl rfl) (by decide) ?_
      refine wl_split rfl (by decide) (fun h5 => ?_) (fun h5 => ?_)
      · (try simp only [beq_iff_eq, bne_iff_ne, ne_eq, decide_eq_true_eq, decide_eq_false_iff_not, beq_eq_false_iff_ne, bne_eq_false_iff_eq, Bool.not_eq_true', Bool.not_eq_false', Bool.not_eq_eq_eq_not, Bool.not_true, Bool.not_false, gt_iff_lt, ge_iff_le, Int.not_lt, Int.not_le] at h5)
        try (exfalso; first | contradiction | omega)
        all_goals
          obtain ⟨a', c', hsl, _, _, hcell⟩ := (hr _ HL).open
          cases hsl
          obtain ⟨b, o, hab, hq⟩ := hcell (by omega)
          cases hab
          have hqk := hq (k2 - 1) (by omega)
          refine wl_yes rfl rfl ?_
          refine wl_val (r_move rfl) (by decide) ?_
          refine wl_yes rfl rfl ?_
          refine wl_val (r_move rfl) (by decide) ?_
          refine wl_yes rfl rfl ?_
          refine wl_val (r_sub rfl rfl (by omega)) (by decide) ?_
          refine wl_yes rfl rfl ?_
          refine wl_val (r_index Tryd.underlying22 Tryd.sizeOf21 rfl rfl (by omega)) (by decide) ?_
          refine wl_yes rfl rfl ?_
          refine wl_val (r_load (plain_of Tryd.underlying21 rfl) rfl (by rw [show ((k2 : Int) - 1).toNat * 1 = k2 - 1 from by omega]; exact hqk)) (by decide) ?_
          refine wl_yes rfl rfl ?_
          refine wl_eff (e_call (r_call rfl Tryd.func68 rfl rfl) (ref_blank_ret)) (by decide) ?_
          rintro _ _ ⟨rfl, rfl⟩
          have HN := HL
          refine wl_yes rfl rfl ?_
          refine wl_val (r_not rfl) (by decide) ?_
          refine wl_val (r_pick_t rfl rfl) (by decide) ?_
          refine wl_nil ?_
          refine wq_seq ?_
          refine wc_cond rfl (fun h6 => ?_) (fun h6 => ?_)
          · (try simp only [beq_iff_eq, bne_iff_ne, ne_eq, decide_eq_true_eq, decide_eq_false_iff_not, beq_eq_false_iff_ne, bne_eq_false_iff_eq, Bool.not_eq_true', Bool.not_eq_false', Bool.not_eq_eq_eq_not, Bool.not_true, Bool.not_false, gt_iff_lt, ge_iff_le, Int.not_lt, Int.not_le] at h6)
            try (exfalso; first | contradiction | omega)
            all_goals
              
              refine wc_skip ?_
              refine wq_seq ?_
              refine wc_block ?_
              refine wc_region ?_
              refine wl_val (r_move rfl) (by decide) ?_
              refine wl_val (r_sub rfl rfl (by omega)) (by decide) ?_
              refine wl_val (r_assign rfl) (by decide) ?_
              refine wl_nil ?_
              refine wq_block_normal ?_
              refine wq_round (k2 - 1) ?_ ?_ ?_ ?_
              · exact (Sub.cons' rfl (by rw [show ((k2 - 1 : Nat) : Int) = (k2 : Int) - 1 from by omega]) (Sub.nil _))
              · exact (Sub.cons rfl (Sub.nil _))
              · exact ⟨by omega, fun j h8 h9 => by by_cases e : j = k2 - 1; (subst e; have h7 := ‹blankM (l.getD (k2 - 1) 0) = false›; rw [h7]; rfl); exact hm3 j (by omega) h9, HN⟩
              · (try dsimp only); omega
          · (try simp only [beq_iff_eq, bne_iff_ne, ne_eq, decide_eq_true_eq, decide_eq_false_iff_not, beq_eq_false_iff_ne, bne_eq_false_iff_eq, Bool.not_eq_true', Bool.not_eq_false', Bool.not_eq_eq_eq_not, Bool.not_true, Bool.not_false, gt_iff_lt, ge_iff_le, Int.not_lt, Int.not_le] at h6)
            try (exfalso; first | contradiction | omega)
            all_goals
              
              refine wc_exit ?_
              refine wq_then_exit ?_
              refine wq_then_exit ?_
              refine wq_block_hit ?_
              refine wq_seq ?_
              refine wc_seq ?_
              refine wc_region ?_
              refine wl_val (r_move rfl) (by decide) ?_
              refine wl_val (r_assign rfl) (by decide) ?_
              refine wl_nil ?_
              refine wq_seq ?_
              refine wc_ret ?_
              refine wq_end1 (.inl rfl) Tryd.results38 rfl ?_
              exact ⟨by rw [blankStartM, hn, back_eq (k := k) hk1 hw hk3 (by first | (left; omega) | (right; assumption)), back_eq (k := k2) hm1 (by omega) hm3 (by first | (left; omega) | (right; rw [show blankM (l.getD (k2 - 1) 0) = true from by assumption]; rfl))], HL⟩
      · (try simp only [beq_iff_eq, bne_iff_ne, ne_eq, decide_eq_true_eq, decide_eq_false_iff_not, beq_eq_false_iff_ne, bne_eq_false_iff_eq, Bool.not_eq_true', Bool.not_eq_false', Bool.not_eq_eq_eq_not, Bool.not_true, Bool.not_false, gt_iff_lt, ge_iff_le, Int.not_lt, Int.not_le] at h5)
        try (exfalso; first | contradiction | omega)
        all_goals
          refine wl_no rfl rfl rfl (by decide) ?_
          refine wl_no rfl rfl rfl (by decide) ?_
          refine wl_no rfl rfl rfl (by decide) ?_
          refine wl_no rfl rfl rfl (by decide) ?_
          refine wl_no rfl rfl rfl (by decide) ?_
          refine wl_no rfl rfl rfl (by decide) ?_
          refine wl_no rfl rfl rfl (by decide) ?_
          refine wl_val (r_pick_f rfl rfl) (by decide) ?_
          refine wl_nil ?_
          refine wq_seq ?_
          refine wc_cond_f rfl ?_
          refine wc_exit ?_
          refine wq_then_exit ?_
          refine wq_then_exit ?_
          refine wq_block_hit ?_
          refine wq_seq ?_
          refine wc_seq ?_
          refine wc_region ?_
          refine wl_val (r_move rfl) (by decide) ?_
          refine wl_val (r_assign rfl) (by decide) ?_
          refine wl_nil ?_
          refine wq_seq ?_
          refine wc_ret ?_
          refine wq_end1 (.inl rfl) Tryd.results38 rfl ?_
          exact ⟨by rw [blankStartM, hn, back_eq (k := k) hk1 hw hk3 (by first | (left; omega) | (right; assumption)), back_eq (k := k2) hm1 (by omega) hm3 (by first | (left; omega) | (right; rw [show blankM (l.getD (k2 - 1) 0) = true from by assumption]; rfl))], HL⟩
theorem ref_begins_ret {w0 w : World} {F : HP} {r : Int} (H : Holds w0 w F) : Ret Tryd.prog 65 #[.int .i32 r] w fun v w' => v = .bool (beginsM r) ∧ Holds w0 w' F := ref_own_ret H
theorem ref_next_ret {x : Int} (H : Holds w0 w F) (hr : FRdI w0 F .i32 v l) : Ret Tryd.prog 33 #[v, .int .i64 x] w fun v' w' => v' = .int .i64 (nextM l x) ∧ Holds w0 w' F := by
  obtain ⟨a, c, hv, hac, hac2, _⟩ := (hr w H).open
  subst hv
  have hw := withinM_le l.length x
  obtain ⟨n, hn⟩ : ∃ n, withinM l.length x = n := ⟨_, rfl⟩
  rw [hn] at hw
  refine ret_enter Tryd.func33 rfl Tryd.ntmps33 (Nat.le_of_ble_eq_true rfl) ?_
  dsimp only [slots0, Nat.reduceAdd]
  refine wc_seq ?_
  refine wc_region ?_
  refine wl_val (r_assign rfl) (by decide) ?_
  refine wl_nil ?_
  refine wq_seq ?_
  refine wc_seq ?_
  refine wc_region ?_
  refine wl_val (r_move rfl) (by decide) ?_
  refine wl_val (r_move rfl) (by decide) ?_
  refine wl_eff (e_call (r_call rfl Tryd.func64 rfl rfl) (ref_cut_ret)) (by decide) ?_
  rintro _ _ ⟨rfl, rfl⟩
  rw [hn]
  refine wl_val (r_assign rfl) (by decide) ?_
  refine wl_nil ?_
  refine wq_seq ?_
  refine wc_seq ?_
  refine wc_seq ?_
  refine wc_region ?_
  refine wl_val (r_move rfl) (by decide) ?_
  refine wl_val (r_move rfl) (by decide) ?_
  refine wl_val (r_len Tryd.underlying22 rfl) (by decide) ?_
  refine wl_val (r_lss rfl rfl) (by decide) ?_
  refine wl_nil ?_
  refine wq_seq ?_
  refine wc_cond rfl (fun h1 => ?_) (fun h1 => ?_)
  · (try simp only [beq_iff_eq, bne_iff_ne, ne_eq, decide_eq_true_eq, decide_eq_false_iff_not, beq_eq_false_iff_ne, bne_eq_false_iff_eq, Bool.not_eq_true', Bool.not_eq_false', Bool.not_eq_eq_eq_not, Bool.not_true, Bool.not_false, gt_iff_lt, ge_iff_le, Int.not_lt, Int.not_le] at h1)
    try (exfalso; first | contradiction | omega)
    all_goals
      
      refine wc_region ?_
      refine wl_val (r_move rfl) (by decide) ?_
      refine wl_val (r_add rfl rfl (by omega)) (by decide) ?_
      refine wl_val (r_assign rfl) (by decide) ?_
      refine wl_nil ?_
      refine wq_seq ?_
      refine wc_seq ?_
      refine wc_block ?_
      refine wc_loop [(0, _)] (fun (k : Nat) => [(1, .int .i64 (k : Int))]) (fun (k : Nat) W => (n < l.length → n + 1 ≤ k) ∧ (¬ n < l.length → k = n) ∧ k ≤ l.length ∧ (∀ j, n + 1 ≤ j → j < k → (!beginsM (l.getD j 0)) = true) ∧ Holds w0 W F) (fun (k : Nat) => l.length - k) ((if n < l.length then n + 1 else n)) (Sub.cons rfl (Sub.nil _)) (Sub.cons' rfl (by first | (rw [if_pos (by omega)]; done) | (rw [if_pos (by omega)]; rfl) | rw [if_neg (by omega)]) (Sub.nil _)) ⟨fun q => by rw [if_pos q]; omega, fun q => by rw [if_neg q], by split <;> omega, fun j h8 h9 => by split at h9 <;> omega, H⟩ ?_
      rintro k w2 ⟨hk0, hk1, hk2, hk3, HL⟩
      dsimp only [List.cons_append, List.nil_append]
      refine wc_seq ?_
      refine wc_seq ?_
      refine wc_region ?_
      refine wl_val (r_move rfl) (by decide) ?_
      refine wl_val (r_move rfl) (by decide) ?_
      refine wl_val (r_len Tryd.underlying22 rfl) (by decide) ?_
      refine wl_val (r_lss rfl rfl) (by decide) ?_
      refine wl_split rfl (by decide) (fun h2 => ?_) (fun h2 => ?_)
      · (try simp only [beq_iff_eq, bne_iff_ne, ne_eq, decide_eq_true_eq, decide_eq_false_iff_not, beq_eq_false_iff_ne, bne_eq_false_iff_eq, Bool.not_eq_true', Bool.not_eq_false', Bool.not_eq_eq_eq_not, Bool.not_true, Bool.not_false, gt_iff_lt, ge_iff_le, Int.not_lt, Int.not_le] at h2)
        try (exfalso; first | contradiction | omega)
        all_goals
          obtain ⟨a', c', hsl, _, _, hcell⟩ := (hr _ HL).open
          cases hsl
          obtain ⟨b, o, hab, hq⟩ := hcell (by omega)
          cases hab
          have hqk := hq k (by omega)
          refine wl_yes rfl rfl ?_
          refine wl_val (r_move rfl) (by decide) ?_
          refine wl_yes rfl rfl ?_
          refine wl_val (r_move rfl) (by decide) ?_
          refine wl_yes rfl rfl ?_
          refine wl_val (r_index Tryd.underlying22 Tryd.sizeOf21 rfl rfl (by omega)) (by decide) ?_
          refine wl_yes rfl rfl ?_
          refine wl_val (r_load (plain_of Tryd.underlying21 rfl) rfl (by rw [show (k : Int).toNat * 1 = k from by omega]; exact hqk)) (by decide) ?_
          refine wl_yes rfl rfl ?_
          refine wl_eff (e_call (r_call rfl Tryd.func65 rfl rfl) (ref_begins_ret HL)) (by decide) ?_
          rintro _ w3 ⟨rfl, H3⟩
          have HN := H3
          refine wl_yes rfl rfl ?_
          refine wl_val (r_not rfl) (by decide) ?_
          refine wl_val (r_pick_t rfl rfl) (by decide) ?_
          refine wl_nil ?_
          refine wq_seq ?_
          refine wc_cond rfl (fun h3 => ?_) (fun h3 => ?_)
          · (try simp only [beq_iff_eq, bne_iff_ne, ne_eq, decide_eq_true_eq, decide_eq_false_iff_not, beq_eq_false_iff_ne, bne_eq_false_iff_eq, Bool.not_eq_true', Bool.not_eq_false', Bool.not_eq_eq_eq_not, Bool.not_true, Bool.not_false, gt_iff_lt, ge_iff_le, Int.not_lt, Int.not_le] at h3)
            try (exfalso; first | contradiction | omega)
            all_goals
              
              refine wc_skip ?_
              refine wq_seq ?_
              refine wc_block ?_
              refine wc_region ?_
              refine wl_val (r_move rfl) (by decide) ?_
              refine wl_val (r_add rfl rfl (by omega)) (by decide) ?_
              refine wl_val (r_assign rfl) (by decide) ?_
              refine wl_nil ?_
              refine wq_block_normal ?_
              refine wq_round (k + 1) ?_ ?_ ?_ ?_
              · exact (Sub.cons rfl (Sub.nil _))
              · exact (Sub.cons rfl (Sub.nil _))
              · exact ⟨fun q => by have := hk0 q; omega, fun q => by have := hk1 q; omega, by omega, fun j h8 h9 => by by_cases e : j = k; (subst e; have h7 := ‹beginsM (l.getD j 0) = false›; rw [h7]; rfl); exact hk3 j h8 (by omega), HN⟩
              · (try dsimp only); omega
          · (try simp only [beq_iff_eq, bne_iff_ne, ne_eq, decide_eq_true_eq, decide_eq_false_iff_not, beq_eq_false_iff_ne, bne_eq_false_iff_eq, Bool.not_eq_true', Bool.not_eq_false', Bool.not_eq_eq_eq_not, Bool.not_true, Bool.not_false, gt_iff_lt, ge_iff_le, Int.not_lt, Int.not_le] at h3)
            try (exfalso; first | contradiction | omega)
            all_goals
              
              refine wc_exit ?_
              refine wq_then_exit ?_
              refine wq_then_exit ?_
              refine wq_block_hit ?_
              refine wq_seq ?_
              refine wc_seq ?_
              refine wc_region ?_
              refine wl_val (r_move rfl) (by decide) ?_
              refine wl_val (r_assign rfl) (by decide) ?_
              refine wl_nil ?_
              refine wq_seq ?_
              refine wc_ret ?_
              refine wq_end1 (.inl rfl) Tryd.results33 rfl ?_
              refine ⟨?_, H3⟩
              first
                | (rw [next_eq hn (k := k) (by by_cases q : n < l.length; exact q; have := hk1 q; omega) (hk0 (by by_cases q : n < l.length; exact q; have := hk1 q; omega)) (by omega) hk3 (by first | (left; omega) | (right; assumption))])
                | (by_cases q : n < l.length; (rw [next_eq hn (k := k) q (hk0 q) (by omega) hk3 (by first | (left; omega) | (right; assumption))]); (have q2 := hk1 q; rw [nextM, hn, if_neg q]; congr 1; omega))
      · (try simp only [beq_iff_eq, bne_iff_ne, ne_eq, decide_eq_true_eq, decide_eq_false_iff_not, beq_eq_false_iff_ne, bne_eq_false_iff_eq, Bool.not_eq_true', Bool.not_eq_false', Bool.not_eq_eq_eq_not, Bool.not_true, Bool.not_false, gt_iff_lt, ge_iff_le, Int.not_lt, Int.not_le] at h2)
        try (exfalso; first | contradiction | omega)
        all_goals
          refine wl_no rfl rfl rfl (by decide) ?_
          refine wl_no rfl rfl rfl (by decide) ?_
          refine wl_no rfl rfl rfl (by decide) ?_
          refine wl_no rfl rfl rfl (by decide) ?_
          refine wl_no rfl rfl rfl (by decide) ?_
          refine wl_no rfl rfl rfl (by decide) ?_
          refine wl_val (r_pick_f rfl rfl) (by decide) ?_
          refine wl_nil ?_
          refine wq_seq ?_
          refine wc_cond_f rfl ?_
          refine wc_exit ?_
          refine wq_then_exit ?_
          refine wq_then_exit ?_
          refine wq_block_hit ?_
          refine wq_seq ?_
          refine wc_seq ?_
          refine wc_region ?_
          refine wl_val (r_move rfl) (by decide) ?_
          refine wl_val (r_assign rfl) (by decide) ?_
          refine wl_nil ?_
          refine wq_seq ?_
          refine wc_ret ?_
          refine wq_end1 (.inl rfl) Tryd.results33 rfl ?_
          refine ⟨?_, HL⟩
          first
            | (rw [next_eq hn (k := k) (by by_cases q : n < l.length; exact q; have := hk1 q; omega) (hk0 (by by_cases q : n < l.length; exact q; have := hk1 q; omega)) (by omega) hk3 (by first | (left; omega) | (right; assumption))])
            | (by_cases q : n < l.length; (rw [next_eq hn (k := k) q (hk0 q) (by omega) hk3 (by first | (left; omega) | (right; assumption))]); (have q2 := hk1 q; rw [nextM, hn, if_neg q]; congr 1; omega))
  · (try simp only [beq_iff_eq, bne_iff_ne, ne_eq, decide_eq_true_eq, decide_eq_false_iff_not, beq_eq_false_iff_ne, bne_eq_false_iff_eq, Bool.not_eq_true', Bool.not_eq_false', Bool.not_eq_eq_eq_not, Bool.not_true, Bool.not_false, gt_iff_lt, ge_iff_le, Int.not_lt, Int.not_le] at h1)
    try (exfalso; first | contradiction | omega)
    all_goals
      
      refine wc_skip ?_
      refine wq_seq ?_
      refine wc_seq ?_
      refine wc_block ?_
      refine wc_loop [(0, _)] (fun (k : Nat) => [(1, .int .i64 (k : Int))]) (fun (k : Nat) W => (n < l.length → n + 1 ≤ k) ∧ (¬ n < l.length → k = n) ∧ k ≤ l.length ∧ (∀ j, n + 1 ≤ j → j < k → (!beginsM (l.getD j 0)) = true) ∧ Holds w0 W F) (fun (k : Nat) => l.length - k) ((if n < l.length then n + 1 else n)) (Sub.cons rfl (Sub.nil _)) (Sub.cons' rfl (by first | (rw [if_pos (by omega)]; done) | (rw [if_pos (by omega)]; rfl) | rw [if_neg (by omega)]) (Sub.nil _)) ⟨fun q => by rw [if_pos q]; omega, fun q => by rw [if_neg q], by split <;> omega, fun j h8 h9 => by split at h9 <;> omega, H⟩ ?_
      rintro k w4 ⟨hk0, hk1, hk2, hk3, HL⟩
      dsimp only [List.cons_append, List.nil_append]
      refine wc_seq ?_
      refine wc_seq ?_
      refine wc_region ?_
      refine wl_val (r_move rfl) (by decide) ?_
      refine wl_val (r_move rfl) (by decide) ?_
      refine wl_val (r_len Tryd.underlying22 rfl) (by decide) ?_
      refine wl_val (r_lss rfl rfl) (by decide) ?_
      refine wl_split rfl (by decide) (fun h4 => ?_) (fun h4 => ?_)
      · (try simp only [beq_iff_eq, bne_iff_ne, ne_eq, decide_eq_true_eq, decide_eq_false_iff_not, beq_eq_false_iff_ne, bne_eq_false_iff_eq, Bool.not_eq_true', Bool.not_eq_false', Bool.not_eq_eq_eq_not, Bool.not_true, Bool.not_false, gt_iff_lt, ge_iff_le, Int.not_lt, Int.not_le] at h4)
        try (exfalso; first | contradiction | omega)
        all_goals
          obtain ⟨a', c', hsl, _, _, hcell⟩ := (hr _ HL).open
          cases hsl
          obtain ⟨b, o, hab, hq⟩ := hcell (by omega)
          cases hab
          have hqk := hq k (by omega)
          refine wl_yes rfl rfl ?_
          refine wl_val (r_move rfl) (by decide) ?_
          refine wl_yes rfl rfl ?_
          refine wl_val (r_move rfl) (by decide) ?_
          refine wl_yes rfl rfl ?_
          refine wl_val (r_index Tryd.underlying22 Tryd.sizeOf21 rfl rfl (by omega)) (by decide) ?_
          refine wl_yes rfl rfl ?_
          refine wl_val (r_load (plain_of Tryd.underlying21 rfl) rfl (by rw [show (k : Int).toNat * 1 = k from by omega]; exact hqk)) (by decide) ?_
          refine wl_yes rfl rfl ?_
          refine wl_eff (e_call (r_call rfl Tryd.func65 rfl rfl) (ref_begins_ret HL)) (by decide) ?_
          rintro _ w5 ⟨rfl, H5⟩
          have HN := H5
          refine wl_yes rfl rfl ?_
          refine wl_val (r_not rfl) (by decide) ?_
          refine wl_val (r_pick_t rfl rfl) (by decide) ?_
          refine wl_nil ?_
          refine wq_seq ?_
          refine wc_cond rfl (fun h5 => ?_) (fun h5 => ?_)
          · (try simp only [beq_iff_eq, bne_iff_ne, ne_eq, decide_eq_true_eq, decide_eq_false_iff_not, beq_eq_false_iff_ne, bne_eq_false_iff_eq, Bool.not_eq_true', Bool.not_eq_false', Bool.not_eq_eq_eq_not, Bool.not_true, Bool.not_false, gt_iff_lt, ge_iff_le, Int.not_lt, Int.not_le] at h5)
            try (exfalso; first | contradiction | omega)
            all_goals
              
              refine wc_skip ?_
              refine wq_seq ?_
              refine wc_block ?_
              refine wc_region ?_
              refine wl_val (r_move rfl) (by decide) ?_
              refine wl_val (r_add rfl rfl (by omega)) (by decide) ?_
              refine wl_val (r_assign rfl) (by decide) ?_
              refine wl_nil ?_
              refine wq_block_normal ?_
              refine wq_round (k + 1) ?_ ?_ ?_ ?_
              · exact (Sub.cons rfl (Sub.nil _))
              · exact (Sub.cons rfl (Sub.nil _))
              · exact ⟨fun q => by have := hk0 q; omega, fun q => by have := hk1 q; omega, by omega, fun j h8 h9 => by by_cases e : j = k; (subst e; have h7 := ‹beginsM (l.getD j 0) = false›; rw [h7]; rfl); exact hk3 j h8 (by omega), HN⟩
              · (try dsimp only); omega
          · (try simp only [beq_iff_eq, bne_iff_ne, ne_eq, decide_eq_true_eq, decide_eq_false_iff_not, beq_eq_false_iff_ne, bne_eq_false_iff_eq, Bool.not_eq_true', Bool.not_eq_false', Bool.not_eq_eq_eq_not, Bool.not_true, Bool.not_false, gt_iff_lt, ge_iff_le, Int.not_lt, Int.not_le] at h5)
            try (exfalso; first | contradiction | omega)
            all_goals
              
              refine wc_exit ?_
              refine wq_then_exit ?_
              refine wq_then_exit ?_
              refine wq_block_hit ?_
              refine wq_seq ?_
              refine wc_seq ?_
              refine wc_region ?_
              refine wl_val (r_move rfl) (by decide) ?_
              refine wl_val (r_assign rfl) (by decide) ?_
              refine wl_nil ?_
              refine wq_seq ?_
              refine wc_ret ?_
              refine wq_end1 (.inl rfl) Tryd.results33 rfl ?_
              refine ⟨?_, H5⟩
              first
                | (rw [next_eq hn (k := k) (by by_cases q : n < l.length; exact q; have := hk1 q; omega) (hk0 (by by_cases q : n < l.length; exact q; have := hk1 q; omega)) (by omega) hk3 (by first | (left; omega) | (right; assumption))])
                | (by_cases q : n < l.length; (rw [next_eq hn (k := k) q (hk0 q) (by omega) hk3 (by first | (left; omega) | (right; assumption))]); (have q2 := hk1 q; rw [nextM, hn, if_neg q]; congr 1; omega))
      · (try simp only [beq_iff_eq, bne_iff_ne, ne_eq, decide_eq_true_eq, decide_eq_false_iff_not, beq_eq_false_iff_ne, bne_eq_false_iff_eq, Bool.not_eq_true', Bool.not_eq_false', Bool.not_eq_eq_eq_not, Bool.not_true, Bool.not_false, gt_iff_lt, ge_iff_le, Int.not_lt, Int.not_le] at h4)
        try (exfalso; first | contradiction | omega)
        all_goals
          refine wl_no rfl rfl rfl (by decide) ?_
          refine wl_no rfl rfl rfl (by decide) ?_
          refine wl_no rfl rfl rfl (by decide) ?_
          refine wl_no rfl rfl rfl (by decide) ?_
          refine wl_no rfl rfl rfl (by decide) ?_
          refine wl_no rfl rfl rfl (by decide) ?_
          refine wl_val (r_pick_f rfl rfl) (by decide) ?_
          refine wl_nil ?_
          refine wq_seq ?_
          refine wc_cond_f rfl ?_
          refine wc_exit ?_
          refine wq_then_exit ?_
          refine wq_then_exit ?_
          refine wq_block_hit ?_
          refine wq_seq ?_
          refine wc_seq ?_
          refine wc_region ?_
          refine wl_val (r_move rfl) (by decide) ?_
          refine wl_val (r_assign rfl) (by decide) ?_
          refine wl_nil ?_
          refine wq_seq ?_
          refine wc_ret ?_
          refine wq_end1 (.inl rfl) Tryd.results33 rfl ?_
          refine ⟨?_, HL⟩
          first
            | (rw [next_eq hn (k := k) (by by_cases q : n < l.length; exact q; have := hk1 q; omega) (hk0 (by by_cases q : n < l.length; exact q; have := hk1 q; omega)) (by omega) hk3 (by first | (left; omega) | (right; assumption))])
            | (by_cases q : n < l.length; (rw [next_eq hn (k := k) q (hk0 q) (by omega) hk3 (by first | (left; omega) | (right; assumption))]); (have q2 := hk1 q; rw [nextM, hn, if_neg q]; congr 1; omega))
theorem prev_eq {l : List Int} {x : Int} {n k : Nat} (hn : withinM l.length x = n) (h : 0 < n) (h1 : k + 1 ≤ n) (h2 : n ≤ l.length) (h3 : ∀ j, k < j → j < n → (!beginsM (l.getD j 0)) = true) (h4 : k = 0 ∨ beginsM (l.getD k 0) = true) : prevM l x = k := by
  rw [prevM, hn]
  by_cases hb : beginsM (l.getD k 0) = true
  · rw [back_eq (k := k + 1) h1 h2 (fun j h5 h6 => h3 j (by omega) h6) (.inr (by rw [Nat.add_sub_cancel, hb]; rfl))]; omega
  · have hk : k = 0 := by rcases h4 with h4 | h4; exact h4; exact absurd h4 hb
    subst hk
    rw [back_eq (k := 0) (by omega) h2 (fun j h5 h6 => by
      by_cases e : j = 0
      · subst e; simp at hb; rw [show l.getD 0 0 = l[0]?.getD 0 from rfl, hb]; rfl
      · exact h3 j (by omega) h6) (.inl rfl)]
theorem ref_prev_ret {x : Int} (H : Holds w0 w F) (hr : FRdI w0 F .i32 v l) : Ret Tryd.prog 34 #[v, .int .i64 x] w fun v' w' => v' = .int .i64 (prevM l x) ∧ Holds w0 w' F := by
  obtain ⟨a, c, hv, hac, hac2, _⟩ := (hr w H).open
  subst hv
  have hw := withinM_le l.length x
  obtain ⟨n, hn⟩ : ∃ n, withinM l.length x = n := ⟨_, rfl⟩
  rw [hn] at hw
  refine ret_enter Tryd.func34 rfl Tryd.ntmps34 (Nat.le_of_ble_eq_true rfl) ?_
  dsimp only [slots0, Nat.reduceAdd]
  refine wc_seq ?_
  refine wc_region ?_
  refine wl_val (r_assign rfl) (by decide) ?_
  refine wl_nil ?_
  refine wq_seq ?_
  refine wc_seq ?_
  refine wc_region ?_
  refine wl_val (r_move rfl) (by decide) ?_
  refine wl_val (r_move rfl) (by decide) ?_
  refine wl_eff (e_call (r_call rfl Tryd.func64 rfl rfl) (ref_cut_ret)) (by decide) ?_
  rintro _ _ ⟨rfl, rfl⟩
  rw [hn]
  refine wl_val (r_assign rfl) (by decide) ?_
  refine wl_nil ?_
  refine wq_seq ?_
  refine wc_seq ?_
  refine wc_seq ?_
  refine wc_region ?_
  refine wl_val (r_move rfl) (by decide) ?_
  refine wl_val (r_gtr rfl rfl) (by decide) ?_
  refine wl_nil ?_
  refine wq_seq ?_
  refine wc_cond rfl (fun h1 => ?_) (fun h1 => ?_)
  · (try simp only [beq_iff_eq, bne_iff_ne, ne_eq, decide_eq_true_eq, decide_eq_false_iff_not, beq_eq_false_iff_ne, bne_eq_false_iff_eq, Bool.not_eq_true', Bool.not_eq_false', Bool.not_eq_eq_eq_not, Bool.not_true, Bool.not_false, gt_iff_lt, ge_iff_le, Int.not_lt, Int.not_le] at h1)
    try (exfalso; first | contradiction | omega)
    all_goals
      
      refine wc_region ?_
      refine wl_val (r_move rfl) (by decide) ?_
      refine wl_val (r_sub rfl rfl (by omega)) (by decide) ?_
      refine wl_val (r_assign rfl) (by decide) ?_
      refine wl_nil ?_
      refine wq_seq ?_
      refine wc_seq ?_
      refine wc_block ?_
      refine wc_loop [(0, _)] (fun (k : Nat) => [(1, .int .i64 (k : Int))]) (fun (k : Nat) W => (0 < n → k + 1 ≤ n) ∧ (n = 0 → k = 0) ∧ (∀ j, k < j → j < n → (!beginsM (l.getD j 0)) = true) ∧ Holds w0 W F) (fun (k : Nat) => k) ((n - 1)) (Sub.cons rfl (Sub.nil _)) (Sub.cons' rfl (by first | (rw [show ((n - 1 : Nat) : Int) = (n : Int) - 1 from by omega]; done) | (rw [show ((n - 1 : Nat) : Int) = (n : Int) - 1 from by omega]; rfl) | (rw [show ((n - 1 : Nat) : Int) = (n : Int) from by omega]; done) | (rw [show ((n - 1 : Nat) : Int) = (n : Int) from by omega]; rfl)) (Sub.nil _)) ⟨by omega, by omega, fun j h8 h9 => absurd h8 (by omega), H⟩ ?_
      rintro k w2 ⟨hk0, hk1, hk3, HL⟩
      dsimp only [List.cons_append, List.nil_append]
      refine wc_seq ?_
      refine wc_seq ?_
      refine wc_region ?_
      refine wl_val (r_move rfl) (by decide) ?_
      refine wl_val (r_gtr rfl rfl) (by decide) ?_
      refine wl_split rfl (by decide) (fun h2 => ?_) (fun h2 => ?_)
      · (try simp only [beq_iff_eq, bne_iff_ne, ne_eq, decide_eq_true_eq, decide_eq_false_iff_not, beq_eq_false_iff_ne, bne_eq_false_iff_eq, Bool.not_eq_true', Bool.not_eq_false', Bool.not_eq_eq_eq_not, Bool.not_true, Bool.not_false, gt_iff_lt, ge_iff_le, Int.not_lt, Int.not_le] at h2)
        try (exfalso; first | contradiction | omega)
        all_goals
          obtain ⟨a', c', hsl, _, _, hcell⟩ := (hr _ HL).open
          cases hsl
          obtain ⟨b, o, hab, hq⟩ := hcell (by omega)
          cases hab
          have hqk := hq k (by omega)
          refine wl_yes rfl rfl ?_
          refine wl_val (r_move rfl) (by decide) ?_
          refine wl_yes rfl rfl ?_
          refine wl_val (r_move rfl) (by decide) ?_
          refine wl_yes rfl rfl ?_
          refine wl_val (r_index Tryd.underlying22 Tryd.sizeOf21 rfl rfl (by omega)) (by decide) ?_
          refine wl_yes rfl rfl ?_
          refine wl_val (r_load (plain_of Tryd.underlying21 rfl) rfl (by rw [show (k : Int).toNat * 1 = k from by omega]; exact hqk)) (by decide) ?_
          refine wl_yes rfl rfl ?_
          refine wl_eff (e_call (r_call rfl Tryd.func65 rfl rfl) (ref_begins_ret HL)) (by decide) ?_
          rintro _ w3 ⟨rfl, H3⟩
          have HN := H3
          refine wl_yes rfl rfl ?_
          refine wl_val (r_not rfl) (by decide) ?_
          refine wl_val (r_pick_t rfl rfl) (by decide) ?_
          refine wl_nil ?_
          refine wq_seq ?_
          refine wc_cond rfl (fun h3 => ?_) (fun h3 => ?_)
          · (try simp only [beq_iff_eq, bne_iff_ne, ne_eq, decide_eq_true_eq, decide_eq_false_iff_not, beq_eq_false_iff_ne, bne_eq_false_iff_eq, Bool.not_eq_true', Bool.not_eq_false', Bool.not_eq_eq_eq_not, Bool.not_true, Bool.not_false, gt_iff_lt, ge_iff_le, Int.not_lt, Int.not_le] at h3)
            try (exfalso; first | contradiction | omega)
            all_goals
              
              refine wc_skip ?_
              refine wq_seq ?_
              refine wc_block ?_
              refine wc_region ?_
              refine wl_val (r_move rfl) (by decide) ?_
              refine wl_val (r_sub rfl rfl (by omega)) (by decide) ?_
              refine wl_val (r_assign rfl) (by decide) ?_
              refine wl_nil ?_
              refine wq_block_normal ?_
              refine wq_round (k - 1) ?_ ?_ ?_ ?_
              · exact (Sub.cons' rfl (by rw [show ((k - 1 : Nat) : Int) = (k : Int) - 1 from by omega]) (Sub.nil _))
              · exact (Sub.cons rfl (Sub.nil _))
              · exact ⟨by omega, by omega, fun j h8 h9 => by by_cases e : j = k; (subst e; have h7 := ‹beginsM (l.getD j 0) = false›; rw [h7]; rfl); exact hk3 j (by omega) h9, HN⟩
              · (try dsimp only); omega
          · (try simp only [beq_iff_eq, bne_iff_ne, ne_eq, decide_eq_true_eq, decide_eq_false_iff_not, beq_eq_false_iff_ne, bne_eq_false_iff_eq, Bool.not_eq_true', Bool.not_eq_false', Bool.not_eq_eq_eq_not, Bool.not_true, Bool.not_false, gt_iff_lt, ge_iff_le, Int.not_lt, Int.not_le] at h3)
            try (exfalso; first | contradiction | omega)
            all_goals
              
              refine wc_exit ?_
              refine wq_then_exit ?_
              refine wq_then_exit ?_
              refine wq_block_hit ?_
              refine wq_seq ?_
              refine wc_seq ?_
              refine wc_region ?_
              refine wl_val (r_move rfl) (by decide) ?_
              refine wl_val (r_assign rfl) (by decide) ?_
              refine wl_nil ?_
              refine wq_seq ?_
              refine wc_ret ?_
              refine wq_end1 (.inl rfl) Tryd.results34 rfl ?_
              refine ⟨?_, H3⟩
              by_cases q : 0 < n
              · rw [prev_eq hn (k := k) q (hk0 q) hw hk3 (by first | (left; omega) | (right; assumption))]
              · rw [prevM, hn]
                have := back_bd (fun r => !beginsM r) l n
                congr 1; omega
      · (try simp only [beq_iff_eq, bne_iff_ne, ne_eq, decide_eq_true_eq, decide_eq_false_iff_not, beq_eq_false_iff_ne, bne_eq_false_iff_eq, Bool.not_eq_true', Bool.not_eq_false', Bool.not_eq_eq_eq_not, Bool.not_true, Bool.not_false, gt_iff_lt, ge_iff_le, Int.not_lt, Int.not_le] at h2)
        try (exfalso; first | contradiction | omega)
        all_goals
          refine wl_no rfl rfl rfl (by decide) ?_
          refine wl_no rfl rfl rfl (by decide) ?_
          refine wl_no rfl rfl rfl (by decide) ?_
          refine wl_no rfl rfl rfl (by decide) ?_
          refine wl_no rfl rfl rfl (by decide) ?_
          refine wl_no rfl rfl rfl (by decide) ?_
          refine wl_val (r_pick_f rfl rfl) (by decide) ?_
          refine wl_nil ?_
          refine wq_seq ?_
          refine wc_cond_f rfl ?_
          refine wc_exit ?_
          refine wq_then_exit ?_
          refine wq_then_exit ?_
          refine wq_block_hit ?_
          refine wq_seq ?_
          refine wc_seq ?_
          refine wc_region ?_
          refine wl_val (r_move rfl) (by decide) ?_
          refine wl_val (r_assign rfl) (by decide) ?_
          refine wl_nil ?_
          refine wq_seq ?_
          refine wc_ret ?_
          refine wq_end1 (.inl rfl) Tryd.results34 rfl ?_
          refine ⟨?_, HL⟩
          by_cases q : 0 < n
          · rw [prev_eq hn (k := k) q (hk0 q) hw hk3 (by first | (left; omega) | (right; assumption))]
          · rw [prevM, hn]
            have := back_bd (fun r => !beginsM r) l n
            congr 1; omega
  · (try simp only [beq_iff_eq, bne_iff_ne, ne_eq, decide_eq_true_eq, decide_eq_false_iff_not, beq_eq_false_iff_ne, bne_eq_false_iff_eq, Bool.not_eq_true', Bool.not_eq_false', Bool.not_eq_eq_eq_not, Bool.not_true, Bool.not_false, gt_iff_lt, ge_iff_le, Int.not_lt, Int.not_le] at h1)
    try (exfalso; first | contradiction | omega)
    all_goals
      
      refine wc_skip ?_
      refine wq_seq ?_
      refine wc_seq ?_
      refine wc_block ?_
      refine wc_loop [(0, _)] (fun (k : Nat) => [(1, .int .i64 (k : Int))]) (fun (k : Nat) W => (0 < n → k + 1 ≤ n) ∧ (n = 0 → k = 0) ∧ (∀ j, k < j → j < n → (!beginsM (l.getD j 0)) = true) ∧ Holds w0 W F) (fun (k : Nat) => k) ((n - 1)) (Sub.cons rfl (Sub.nil _)) (Sub.cons' rfl (by first | (rw [show ((n - 1 : Nat) : Int) = (n : Int) - 1 from by omega]; done) | (rw [show ((n - 1 : Nat) : Int) = (n : Int) - 1 from by omega]; rfl) | (rw [show ((n - 1 : Nat) : Int) = (n : Int) from by omega]; done) | (rw [show ((n - 1 : Nat) : Int) = (n : Int) from by omega]; rfl)) (Sub.nil _)) ⟨by omega, by omega, fun j h8 h9 => absurd h8 (by omega), H⟩ ?_
      rintro k w4 ⟨hk0, hk1, hk3, HL⟩
      dsimp only [List.cons_append, List.nil_append]
      refine wc_seq ?_
      refine wc_seq ?_
      refine wc_region ?_
      refine wl_val (r_move rfl) (by decide) ?_
      refine wl_val (r_gtr rfl rfl) (by decide) ?_
      refine wl_split rfl (by decide) (fun h4 => ?_) (fun h4 => ?_)
      · (try simp only [beq_iff_eq, bne_iff_ne, ne_eq, decide_eq_true_eq, decide_eq_false_iff_not, beq_eq_false_iff_ne, bne_eq_false_iff_eq, Bool.not_eq_true', Bool.not_eq_false', Bool.not_eq_eq_eq_not, Bool.not_true, Bool.not_false, gt_iff_lt, ge_iff_le, Int.not_lt, Int.not_le] at h4)
        try (exfalso; first | contradiction | omega)
        all_goals
          obtain ⟨a', c', hsl, _, _, hcell⟩ := (hr _ HL).open
          cases hsl
          obtain ⟨b, o, hab, hq⟩ := hcell (by omega)
          cases hab
          have hqk := hq k (by omega)
          refine wl_yes rfl rfl ?_
          refine wl_val (r_move rfl) (by decide) ?_
          refine wl_yes rfl rfl ?_
          refine wl_val (r_move rfl) (by decide) ?_
          refine wl_yes rfl rfl ?_
          refine wl_val (r_index Tryd.underlying22 Tryd.sizeOf21 rfl rfl (by omega)) (by decide) ?_
          refine wl_yes rfl rfl ?_
          refine wl_val (r_load (plain_of Tryd.underlying21 rfl) rfl (by rw [show (k : Int).toNat * 1 = k from by omega]; exact hqk)) (by decide) ?_
          refine wl_yes rfl rfl ?_
          refine wl_eff (e_call (r_call rfl Tryd.func65 rfl rfl) (ref_begins_ret HL)) (by decide) ?_
          rintro _ w5 ⟨rfl, H5⟩
          have HN := H5
          refine wl_yes rfl rfl ?_
          refine wl_val (r_not rfl) (by decide) ?_
          refine wl_val (r_pick_t rfl rfl) (by decide) ?_
          refine wl_nil ?_
          refine wq_seq ?_
          refine wc_cond rfl (fun h5 => ?_) (fun h5 => ?_)
          · (try simp only [beq_iff_eq, bne_iff_ne, ne_eq, decide_eq_true_eq, decide_eq_false_iff_not, beq_eq_false_iff_ne, bne_eq_false_iff_eq, Bool.not_eq_true', Bool.not_eq_false', Bool.not_eq_eq_eq_not, Bool.not_true, Bool.not_false, gt_iff_lt, ge_iff_le, Int.not_lt, Int.not_le] at h5)
            try (exfalso; first | contradiction | omega)
            all_goals
              
              refine wc_skip ?_
              refine wq_seq ?_
              refine wc_block ?_
              refine wc_region ?_
              refine wl_val (r_move rfl) (by decide) ?_
              refine wl_val (r_sub rfl rfl (by omega)) (by decide) ?_
              refine wl_val (r_assign rfl) (by decide) ?_
              refine wl_nil ?_
              refine wq_block_normal ?_
              refine wq_round (k - 1) ?_ ?_ ?_ ?_
              · exact (Sub.cons' rfl (by rw [show ((k - 1 : Nat) : Int) = (k : Int) - 1 from by omega]) (Sub.nil _))
              · exact (Sub.cons rfl (Sub.nil _))
              · exact ⟨by omega, by omega, fun j h8 h9 => by by_cases e : j = k; (subst e; have h7 := ‹beginsM (l.getD j 0) = false›; rw [h7]; rfl); exact hk3 j (by omega) h9, HN⟩
              · (try dsimp only); omega
          · (try simp only [beq_iff_eq, bne_iff_ne, ne_eq, decide_eq_true_eq, decide_eq_false_iff_not, beq_eq_false_iff_ne, bne_eq_false_iff_eq, Bool.not_eq_true', Bool.not_eq_false', Bool.not_eq_eq_eq_not, Bool.not_true, Bool.not_false, gt_iff_lt, ge_iff_le, Int.not_lt, Int.not_le] at h5)
            try (exfalso; first | contradiction | omega)
            all_goals
              
              refine wc_exit ?_
              refine wq_then_exit ?_
              refine wq_then_exit ?_
              refine wq_block_hit ?_
              refine wq_seq ?_
              refine wc_seq ?_
              refine wc_region ?_
              refine wl_val (r_move rfl) (by decide) ?_
              refine wl_val (r_assign rfl) (by decide) ?_
              refine wl_nil ?_
              refine wq_seq ?_
              refine wc_ret ?_
              refine wq_end1 (.inl rfl) Tryd.results34 rfl ?_
              refine ⟨?_, H5⟩
              by_cases q : 0 < n
              · rw [prev_eq hn (k := k) q (hk0 q) hw hk3 (by first | (left; omega) | (right; assumption))]
              · rw [prevM, hn]
                have := back_bd (fun r => !beginsM r) l n
                congr 1; omega
      · (try simp only [beq_iff_eq, bne_iff_ne, ne_eq, decide_eq_true_eq, decide_eq_false_iff_not, beq_eq_false_iff_ne, bne_eq_false_iff_eq, Bool.not_eq_true', Bool.not_eq_false', Bool.not_eq_eq_eq_not, Bool.not_true, Bool.not_false, gt_iff_lt, ge_iff_le, Int.not_lt, Int.not_le] at h4)
        try (exfalso; first | contradiction | omega)
        all_goals
          refine wl_no rfl rfl rfl (by decide) ?_
          refine wl_no rfl rfl rfl (by decide) ?_
          refine wl_no rfl rfl rfl (by decide) ?_
          refine wl_no rfl rfl rfl (by decide) ?_
          refine wl_no rfl rfl rfl (by decide) ?_
          refine wl_no rfl rfl rfl (by decide) ?_
          refine wl_val (r_pick_f rfl rfl) (by decide) ?_
          refine wl_nil ?_
          refine wq_seq ?_
          refine wc_cond_f rfl ?_
          refine wc_exit ?_
          refine wq_then_exit ?_
          refine wq_then_exit ?_
          refine wq_block_hit ?_
          refine wq_seq ?_
          refine wc_seq ?_
          refine wc_region ?_
          refine wl_val (r_move rfl) (by decide) ?_
          refine wl_val (r_assign rfl) (by decide) ?_
          refine wl_nil ?_
          refine wq_seq ?_
          refine wc_ret ?_
          refine wq_end1 (.inl rfl) Tryd.results34 rfl ?_
          refine ⟨?_, HL⟩
          by_cases q : 0 < n
          · rw [prev_eq hn (k := k) q (hk0 q) hw hk3 (by first | (left; omega) | (right; assumption))]
          · rw [prevM, hn]
            have := back_bd (fun r => !beginsM r) l n
            congr 1; omega
theorem buf_blank_ret {r : Int} : Ret Tryd.prog 67 #[.int .i32 r] w fun v w' => v = .bool (blankM r) ∧ w = w' := by
  refine ret_enter Tryd.func67 rfl Tryd.ntmps67 (Nat.le_of_ble_eq_true rfl) ?_
  dsimp only [slots0, Nat.reduceAdd]
  refine wc_seq ?_
  refine wc_region ?_
  refine wl_val (r_assign rfl) (by decide) ?_
  refine wl_nil ?_
  refine wq_seq ?_
  refine wc_seq ?_
  refine wc_region ?_
  refine wl_val (r_move rfl) (by decide) ?_
  refine wl_val (r_eql rfl rfl) (by decide) ?_
  refine wl_split rfl (by decide) (fun h1 => ?_) (fun h1 => ?_)
  · (try simp only [beq_iff_eq, bne_iff_ne, ne_eq, decide_eq_true_eq, decide_eq_false_iff_not, beq_eq_false_iff_ne, bne_eq_false_iff_eq, Bool.not_eq_true', Bool.not_eq_false', Bool.not_eq_eq_eq_not, Bool.not_true, Bool.not_false, gt_iff_lt, ge_iff_le, Int.not_lt, Int.not_le] at h1)
    try (exfalso; first | contradiction | omega)
    all_goals
      refine wl_no rfl rfl rfl (by decide) ?_
      refine wl_no rfl rfl rfl (by decide) ?_
      refine wl_val (r_pick_t rfl rfl) (by decide) ?_
      refine wl_val (r_assign rfl) (by decide) ?_
      refine wl_nil ?_
      refine wq_seq ?_
      refine wc_ret ?_
      refine wq_end1 (.inl rfl) Tryd.results67 rfl ?_
      refine ⟨?_, rfl⟩; congr 1; first | (symm; rw [blankM, decide_eq_true_eq]; omega) | (symm; rw [blankM, decide_eq_false_iff_not]; omega) | (rw [blankM, Bool.eq_iff_iff]; simp; omega)
  · (try simp only [beq_iff_eq, bne_iff_ne, ne_eq, decide_eq_true_eq, decide_eq_false_iff_not, beq_eq_false_iff_ne, bne_eq_false_iff_eq, Bool.not_eq_true', Bool.not_eq_false', Bool.not_eq_eq_eq_not, Bool.not_true, Bool.not_false, gt_iff_lt, ge_iff_le, Int.not_lt, Int.not_le] at h1)
    try (exfalso; first | contradiction | omega)
    all_goals
      refine wl_yes rfl rfl ?_
      refine wl_val (r_move rfl) (by decide) ?_
      refine wl_yes rfl rfl ?_
      refine wl_val (r_eql rfl rfl) (by decide) ?_
      refine wl_val (r_pick_f rfl rfl) (by decide) ?_
      refine wl_val (r_assign rfl) (by decide) ?_
      refine wl_nil ?_
      refine wq_seq ?_
      refine wc_ret ?_
      refine wq_end1 (.inl rfl) Tryd.results67 rfl ?_
      refine ⟨?_, rfl⟩; congr 1; first | (symm; rw [blankM, decide_eq_true_eq]; omega) | (symm; rw [blankM, decide_eq_false_iff_not]; omega) | (rw [blankM, Bool.eq_iff_iff]; simp; omega)
theorem tells_blank (w0 : World) (F : HP) : Tells Tryd.prog w0 F (.func (.func 67) #[] #[]) blankM :=
  ⟨rfl, fun G W HW r => ⟨67, [], [], _, _, rfl, Tryd.func67, rfl, rfl, buf_blank_ret.mono fun v w' ⟨h, e⟩ => ⟨h, e ▸ HW⟩⟩⟩
theorem blank_end_ret {x : Int} (H : Holds w0 w F) (hr : FRdI w0 F .i32 v l) :
    Ret Tryd.prog 39 #[v, .int .i64 x] w fun v' w' => v' = .int .i64 (blankEndM l x) ∧ Holds w0 w' F := by
  obtain ⟨a, c, hv, hac, hac2, _⟩ := (hr w H).open
  subst hv
  have hw := withinM_le l.length x
  have ho := over_bd blankM l hw
  refine ret_enter Tryd.func39 rfl Tryd.ntmps39 (Nat.le_of_ble_eq_true rfl) ?_
  dsimp only [slots0, Nat.reduceAdd]
  refine wc_seq ?_
  refine wc_region ?_
  refine wl_val (r_assign rfl) (by decide) ?_
  refine wl_nil ?_
  refine wq_seq ?_
  refine wc_seq ?_
  refine wc_region ?_
  refine wl_val (r_move rfl) (by decide) ?_
  refine wl_val (r_move rfl) (by decide) ?_
  refine wl_val (r_move rfl) (by decide) ?_
  refine wl_val (r_move rfl) (by decide) ?_
  refine wl_eff (e_call (r_call rfl Tryd.func59 rfl rfl) (within_ret)) (by decide) ?_
  rintro _ _ ⟨rfl, rfl⟩
  refine wl_eff (e_call (r_call rfl Tryd.func62 rfl rfl) ((over_ret (G := emp) H.add_emp (tells_blank w0 F) hr.under hw))) (by decide) ?_
  rintro _ w2 ⟨rfl, H2⟩
  refine wl_eff (e_call (r_call rfl Tryd.func60 rfl rfl) (not_ret H2.right rfl)) (by decide) ?_
  rintro _ w3 ⟨bn, rfl, H3⟩
  refine wl_eff (e_call (r_call rfl Tryd.func62 rfl rfl) ((over_ret (G := emp) H3.add_emp (tells_not (tells_blank w0 F)) hr.under.under ho.2))) (by decide) ?_
  rintro _ w4 ⟨rfl, H4⟩
  refine wl_val (r_assign rfl) (by decide) ?_
  refine wl_nil ?_
  refine wq_seq ?_
  refine wc_ret ?_
  refine wq_end1 (.inl rfl) Tryd.results39 rfl ?_
  exact ⟨rfl, H4.right.right⟩
theorem blank_start_ret {x : Int} (H : Holds w0 w F) (hr : FRdI w0 F .i32 v l) :
    Ret Tryd.prog 37 #[v, .int .i64 x] w fun v' w' => v' = .int .i64 (blankStartM l x) ∧ Holds w0 w' F := by
  obtain ⟨a, c, hv, hac, hac2, _⟩ := (hr w H).open
  subst hv
  have hw := withinM_le l.length x
  have ho := back_bd blankM l (withinM l.length x)
  refine ret_enter Tryd.func37 rfl Tryd.ntmps37 (Nat.le_of_ble_eq_true rfl) ?_
  dsimp only [slots0, Nat.reduceAdd]
  refine wc_seq ?_
  refine wc_region ?_
  refine wl_val (r_assign rfl) (by decide) ?_
  refine wl_nil ?_
  refine wq_seq ?_
  refine wc_seq ?_
  refine wc_region ?_
  refine wl_val (r_move rfl) (by decide) ?_
  refine wl_val (r_move rfl) (by decide) ?_
  refine wl_val (r_move rfl) (by decide) ?_
  refine wl_val (r_move rfl) (by decide) ?_
  refine wl_eff (e_call (r_call rfl Tryd.func59 rfl rfl) (within_ret)) (by decide) ?_
  rintro _ _ ⟨rfl, rfl⟩
  refine wl_eff (e_call (r_call rfl Tryd.func58 rfl rfl) ((back_ret (G := emp) H.add_emp (tells_blank w0 F) hr.under hw))) (by decide) ?_
  rintro _ w2 ⟨rfl, H2⟩
  refine wl_eff (e_call (r_call rfl Tryd.func60 rfl rfl) (not_ret H2.right rfl)) (by decide) ?_
  rintro _ w3 ⟨bn, rfl, H3⟩
  refine wl_eff (e_call (r_call rfl Tryd.func58 rfl rfl) ((back_ret (G := emp) H3.add_emp (tells_not (tells_blank w0 F)) hr.under.under (by omega)))) (by decide) ?_
  rintro _ w4 ⟨rfl, H4⟩
  refine wl_val (r_assign rfl) (by decide) ?_
  refine wl_nil ?_
  refine wq_seq ?_
  refine wc_ret ?_
  refine wq_end1 (.inl rfl) Tryd.results37 rfl ?_
  exact ⟨rfl, H4.right.right⟩
end
end Go.Proofs.YtlldaaamdchkdaaDoor
