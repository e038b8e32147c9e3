/- The document's Strip, walked. -/
import Derived.Test.YtgoopiakpbcgoaaShRef2
set_option linter.unusedSimpArgs false
set_option linter.unusedVariables false
namespace Go.Proofs.Ytgoopiakpbcgoaa
open Go.RowKit Go.Lib
set_option maxHeartbeats 2000000
section
variable {w0 w : World} {F : HP} {v u : Value} {l : List Int} {st : Int}
theorem ref_strip_ret (H : Holds w0 w F) (hv : FRdI w0 F .i32 v l) (hL : l.length ≤ 4294967296) : Ret Try.prog 22 #[v] w fun v' w' => Holds w0 w' (RowI 21 .i32 v' (stripS l) • F) := by
  refine ret_enter Try.func22 rfl Try.ntmps22 (Nat.le_of_ble_eq_true rfl) ?_
  dsimp only [slots0, Nat.reduceAdd]
  refine wc_seq ?_
  refine wc_region ?_
  refine wl_val (r_assign rfl) (ltn rfl) ?_
  refine wl_nil ?_
  refine wq_seq ?_
  refine wc_seq ?_
  refine wc_region ?_
  refine wl_val (r_assign rfl) (ltn rfl) ?_
  refine wl_nil ?_
  refine wq_seq ?_
  refine wc_seq ?_
  refine wc_region ?_
  refine wl_val (r_assign rfl) (ltn rfl) ?_
  refine wl_nil ?_
  refine wq_seq ?_
  refine wc_seq ?_
  refine wc_seq ?_
  refine wc_region ?_
  refine wl_val (r_assign rfl) (ltn rfl) ?_
  refine wl_nil ?_
  refine wq_seq ?_
  refine wc_block ?_
  refine wc_loop [(0, _)] (fun (⟨k, sv, u⟩ : Nat × Int × Value) => [(5, .int .i64 (k : Int)), (4, .int .i32 sv), (3, u)]) (fun (⟨k, sv, u⟩ : Nat × Int × Value) W => ∃ out, SR l k sv out ∧ Holds w0 W (RowI 21 .i32 u out • F)) (fun (⟨k, sv, u⟩ : Nat × Int × Value) => l.length - k) ((0, 0, .slice none 0 0)) (Sub.cons rfl (Sub.nil _)) (Sub.cons rfl (Sub.cons rfl (Sub.cons rfl (Sub.nil _)))) ⟨[], sr_zero, (H).row_nil none⟩ ?_
  rintro ⟨k, sv, u⟩ w1 ⟨out, hsr, HL⟩
  dsimp only [List.cons_append, List.nil_append]
  refine wc_seq ?_
  refine wc_seq ?_
  refine wc_region ?_
  refine wl_val (r_move rfl) (ltn rfl) ?_
  refine wl_val (r_move rfl) (ltn rfl) ?_
  refine wl_val (r_lenR (hv _ (HL.right)) Try.underlying22 rfl) (ltn rfl) ?_
  refine wl_val (r_lss rfl rfl) (ltn rfl) ?_
  refine wl_nil ?_
  refine wq_seq ?_
  refine wc_cond rfl (fun h1 => ?_) (fun h1 => ?_)
  · (try simp only [beq_iff_eq, bne_iff_ne, ne_eq, decide_eq_true_eq, decide_eq_false_iff_not, beq_eq_false_iff_ne, bne_eq_false_iff_eq, Bool.not_eq_true', Bool.not_eq_false', Bool.not_eq_eq_eq_not, Bool.not_true, Bool.not_false, gt_iff_lt, ge_iff_le, Int.not_lt, Int.not_le] at h1)
    
    refine wc_skip ?_
    refine wq_seq ?_
    refine wc_seq ?_
    refine wc_block ?_
    refine wc_seq ?_
    have hkl : k < l.length := by omega
    have hset := hsr.set
    have hlen := hsr.len
    refine wc_region ?_
    refine wl_val (r_move rfl) (ltn rfl) ?_
    refine wl_val (r_move rfl) (ltn rfl) ?_
    obtain ⟨bv, ov, cv, ev⟩ := RdI.posV (hv _ (HL.right)) (by omega)
    cases ev
    refine wl_val (r_index Try.underlying22 Try.sizeOf21 rfl rfl (by omega)) (ltn rfl) ?_
    refine wl_val (r_load (plain_of Try.underlying21 rfl) rfl (by first | exact RdI.at1n (hv _ (HL.right)) (by omega) | exact RdI.at0 (hv _ (HL.right)) (by omega) | exact RdI.at1 (hv _ (HL.right)) (by omega))) (ltn rfl) ?_
    refine wl_val (r_assign rfl) (ltn rfl) ?_
    refine wl_nil ?_
    refine wq_seq ?_
    refine wc_block ?_
    refine wc_seq ?_
    refine wc_region ?_
    refine wl_val (r_move rfl) (ltn rfl) ?_
    refine wl_val (r_neq rfl rfl) (ltn rfl) ?_
    refine wl_split rfl (ltn rfl) (fun h2 => ?_) (fun h2 => ?_)
    · (try simp only [beq_iff_eq, bne_iff_ne, ne_eq, decide_eq_true_eq, decide_eq_false_iff_not, beq_eq_false_iff_ne, bne_eq_false_iff_eq, Bool.not_eq_true', Bool.not_eq_false', Bool.not_eq_eq_eq_not, Bool.not_true, Bool.not_false, gt_iff_lt, ge_iff_le, Int.not_lt, Int.not_le] at h2)
      refine wl_yes rfl rfl ?_
      refine wl_val (r_move rfl) (ltn rfl) ?_
      refine wl_yes rfl rfl ?_
      refine wl_val (r_move rfl) (ltn rfl) ?_
      refine wl_yes rfl rfl ?_
      refine wl_val (r_eql rfl rfl) (ltn rfl) ?_
      refine wl_val (r_pick_t rfl rfl) (ltn rfl) ?_
      refine wl_val (r_assign rfl) (ltn rfl) ?_
      refine wl_nil ?_
      refine wq_seq ?_
      refine wc_cond rfl (fun h3 => ?_) (fun h3 => ?_)
      · (try simp only [beq_iff_eq, bne_iff_ne, ne_eq, decide_eq_true_eq, decide_eq_false_iff_not, beq_eq_false_iff_ne, bne_eq_false_iff_eq, Bool.not_eq_true', Bool.not_eq_false', Bool.not_eq_eq_eq_not, Bool.not_true, Bool.not_false, gt_iff_lt, ge_iff_le, Int.not_lt, Int.not_le] at h3)
        
        refine wc_region ?_
        refine wl_val (r_assign rfl) (ltn rfl) ?_
        refine wl_nil ?_
        refine wq_block_normal ?_
        refine wq_block_normal ?_
        refine wq_seq ?_
        refine wc_region ?_
        refine wl_val (r_move rfl) (ltn rfl) ?_
        refine wl_val (r_as (r_add rfl rfl (by omega)) ((by first | exact (show Value.int .i64 ((k : Int) + 1) = .int .i64 ((k + 1 : Nat) : Int) from by rw [Int.natCast_add]; rfl) | exact (show Value.int .i64 (((k + 1 : Nat) : Int) + 1) = .int .i64 ((k + 1 + 1 : Nat) : Int) from by rw [Int.natCast_add (k + 1)]; rfl)))) (ltn rfl) ?_
        refine wl_val (r_assign rfl) (ltn rfl) ?_
        refine wl_nil ?_
        refine wq_round (_, _, _) (Sub.cons rfl (Sub.cons rfl (Sub.cons rfl (Sub.nil _)))) (Sub.cons rfl (Sub.nil _)) (by (try dsimp only); exact by first | exact ⟨_, sr_end hsr hkl (by assumption) (by assumption), HL⟩ | exact ⟨_, sr_open hsr hkl (by assumption) (by omega), HL⟩ | exact ⟨_, sr_back1 hsr (by omega) (by assumption) (by assumption) hs0 hgo, HL⟩ | exact ⟨_, sr_back0 hsr (by omega) (by assumption) (by assumption) (by first | exact hgo | exact .inl (by omega) | (rw [show sv = 34 by omega, goes34 (by omega)]; exact .inr (decide_eq_true (in4.1 (by assumption))))), HL⟩ | exact ⟨_, sr_last hsr hkl (by omega) (by assumption) (by assumption), HL⟩ | exact ⟨_, sr_stay hsr hkl (by omega) (by omega) (by omega), HL⟩ | (exfalso; omega)) ?_
        · (try dsimp only); omega
      · (try simp only [beq_iff_eq, bne_iff_ne, ne_eq, decide_eq_true_eq, decide_eq_false_iff_not, beq_eq_false_iff_ne, bne_eq_false_iff_eq, Bool.not_eq_true', Bool.not_eq_false', Bool.not_eq_eq_eq_not, Bool.not_true, Bool.not_false, gt_iff_lt, ge_iff_le, Int.not_lt, Int.not_le] at h3)
        
        refine wc_seq ?_
        refine wc_region ?_
        refine wl_val (r_move rfl) (ltn rfl) ?_
        refine wl_val (r_neq rfl rfl) (ltn rfl) ?_
        refine wl_split rfl (ltn rfl) (fun h4 => ?_) (fun h4 => ?_)
        · (try simp only [beq_iff_eq, bne_iff_ne, ne_eq, decide_eq_true_eq, decide_eq_false_iff_not, beq_eq_false_iff_ne, bne_eq_false_iff_eq, Bool.not_eq_true', Bool.not_eq_false', Bool.not_eq_eq_eq_not, Bool.not_true, Bool.not_false, gt_iff_lt, ge_iff_le, Int.not_lt, Int.not_le] at h4)
          refine wl_yes rfl rfl ?_
          refine wl_val (r_move rfl) (ltn rfl) ?_
          refine wl_yes rfl rfl ?_
          refine wl_val (r_eql rfl rfl) (ltn rfl) ?_
          refine wl_val (r_pick_t rfl rfl) (ltn rfl) ?_
          refine wl_val (r_assign rfl) (ltn rfl) ?_
          refine wl_nil ?_
          refine wq_seq ?_
          refine wc_cond rfl (fun h5 => ?_) (fun h5 => ?_)
          · (try simp only [beq_iff_eq, bne_iff_ne, ne_eq, decide_eq_true_eq, decide_eq_false_iff_not, beq_eq_false_iff_ne, bne_eq_false_iff_eq, Bool.not_eq_true', Bool.not_eq_false', Bool.not_eq_eq_eq_not, Bool.not_true, Bool.not_false, gt_iff_lt, ge_iff_le, Int.not_lt, Int.not_le] at h5)
            
            refine wc_seq ?_
            refine wc_region ?_
            refine wl_val (r_move rfl) (ltn rfl) ?_
            refine wl_val (r_as (r_add rfl rfl (by omega)) (show Value.int .i64 ((k : Int) + 1) = .int .i64 ((k + 1 : Nat) : Int) by rw [Int.natCast_add]; rfl)) (ltn rfl) ?_
            refine wl_val (r_move rfl) (ltn rfl) ?_
            refine wl_val (r_len Try.underlying22 rfl) (ltn rfl) ?_
            refine wl_val (r_lss rfl rfl) (ltn rfl) ?_
            refine wl_split rfl (ltn rfl) (fun h6 => ?_) (fun h6 => ?_)
            · (try simp only [beq_iff_eq, bne_iff_ne, ne_eq, decide_eq_true_eq, decide_eq_false_iff_not, beq_eq_false_iff_ne, bne_eq_false_iff_eq, Bool.not_eq_true', Bool.not_eq_false', Bool.not_eq_eq_eq_not, Bool.not_true, Bool.not_false, gt_iff_lt, ge_iff_le, Int.not_lt, Int.not_le] at h6)
              refine wl_yes rfl rfl ?_
              refine wl_val (r_move rfl) (ltn rfl) ?_
              refine wl_yes rfl rfl ?_
              refine wl_val (r_eql rfl rfl) (ltn rfl) ?_
              refine wl_yes rfl rfl ?_
              refine wl_split rfl (ltn rfl) (fun h7 => ?_) (fun h7 => ?_)
              · (try simp only [beq_iff_eq, bne_iff_ne, ne_eq, decide_eq_true_eq, decide_eq_false_iff_not, beq_eq_false_iff_ne, bne_eq_false_iff_eq, Bool.not_eq_true', Bool.not_eq_false', Bool.not_eq_eq_eq_not, Bool.not_true, Bool.not_false, gt_iff_lt, ge_iff_le, Int.not_lt, Int.not_le] at h7)
                refine wl_yes rfl rfl ?_
                refine wl_val (r_move rfl) (ltn rfl) ?_
                refine wl_yes rfl rfl ?_
                refine wl_val (r_move rfl) (ltn rfl) ?_
                refine wl_yes rfl rfl ?_
                refine wl_val (r_as (r_add rfl rfl (by omega)) (show Value.int .i64 ((k : Int) + 1) = .int .i64 ((k + 1 : Nat) : Int) by rw [Int.natCast_add]; rfl)) (ltn rfl) ?_
                refine wl_yes rfl rfl ?_
                refine wl_val (r_index Try.underlying22 Try.sizeOf21 rfl rfl (by omega)) (ltn rfl) ?_
                refine wl_yes rfl rfl ?_
                refine wl_val (r_load (plain_of Try.underlying21 rfl) rfl (by first | exact RdI.at1n (hv _ (HL.right)) (by omega) | exact RdI.at0 (hv _ (HL.right)) (by omega) | exact RdI.at1 (hv _ (HL.right)) (by omega))) (ltn rfl) ?_
                refine wl_yes rfl rfl ?_
                refine wl_eff (e_call (r_call rfl Try.func38 rfl rfl) (ref_in_ret (by decide))) (ltn rfl) ?_
                rintro _ _ ⟨rfl, rfl⟩
                refine wl_yes rfl rfl ?_
                refine wl_val (r_not rfl) (ltn rfl) ?_
                refine wl_yes rfl rfl ?_
                refine wl_val (r_pick_t rfl rfl) (ltn rfl) ?_
                refine wl_yes rfl rfl ?_
                refine wl_split rfl (ltn rfl) (fun h8 => ?_) (fun h8 => ?_)
                · (try simp only [beq_iff_eq, bne_iff_ne, ne_eq, decide_eq_true_eq, decide_eq_false_iff_not, beq_eq_false_iff_ne, bne_eq_false_iff_eq, Bool.not_eq_true', Bool.not_eq_false', Bool.not_eq_eq_eq_not, Bool.not_true, Bool.not_false, gt_iff_lt, ge_iff_le, Int.not_lt, Int.not_le] at h8)
                  refine wl_no rfl rfl rfl (ltn rfl) ?_
                  refine wl_no rfl rfl rfl (ltn rfl) ?_
                  refine wl_no rfl rfl rfl (ltn rfl) ?_
                  refine wl_nou rfl rfl (ltn rfl) ?_
                  refine wl_nou rfl rfl (ltn rfl) ?_
                  refine wl_nou rfl rfl (ltn rfl) ?_
                  refine wl_nou rfl rfl (ltn rfl) ?_
                  refine wl_nou rfl rfl (ltn rfl) ?_
                  refine wl_nou rfl rfl (ltn rfl) ?_
                  refine wl_nou rfl rfl (ltn rfl) ?_
                  refine wl_no rfl rfl rfl (ltn rfl) ?_
                  refine wl_yes rfl rfl ?_
                  refine wl_val (r_pick_t rfl rfl) (ltn rfl) ?_
                  refine wl_val (r_pick_t rfl rfl) (ltn rfl) ?_
                  refine wl_val (r_assign rfl) (ltn rfl) ?_
                  refine wl_nil ?_
                  refine wq_seq ?_
                  refine wc_seq ?_
                  refine wc_seq ?_
                  refine wc_region ?_
                  refine wl_val (r_move rfl) (ltn rfl) ?_
                  refine wl_nil ?_
                  refine wq_seq ?_
                  refine wc_cond_t rfl ?_
                  have hs0 : ¬ sv = 0 := by omega
                  have hgo : goesL sv (l.drop (k + 1)) = false := by first | (rw [show sv = 34 by omega, goes34 (by omega)]; exact decide_eq_false (fun q => absurd (in4.2 q) (by assumption))) | (rw [show sv = 96 by omega, goes96 (by omega)]; exact decide_eq_false (fun q => absurd (in2.2 q) (by assumption)))
                  refine wc_region ?_
                  refine wl_val (r_move rfl) (ltn rfl) ?_
                  refine wl_val (r_move rfl) (ltn rfl) ?_
                  refine wl_eff (e_lit_ints (k := .i32) (l := [_]) HL Try.underlying22 Try.sizeOf21 Try.zeroValue21 rfl rfl rfl (by decide)) (ltn rfl) ?_
                  rintro l3 w3 H3
                  refine wl_eff (e_append_ints H3.f2 ((H3).row_rd) Try.underlying22 (show (Try.prog.info? 21).map (fun i => (i.zero, i.size, i.bytes)) = some (some (.int .i32 0), 1, 4) by kernel_rfl) rfl rfl (by first | omega | (simp only [List.length_append, List.length_nil, List.length_cons]; omega) | (simp; omega)) (by first | omega | (simp only [List.length_append, List.length_nil, List.length_cons]; omega) | (simp; omega))) (ltn rfl) ?_
                  rintro l4 w4 H4
                  try simp only [List.nil_append] at H4
                  refine wl_val (r_assign rfl) (ltn rfl) ?_
                  refine wl_nil ?_
                  refine wq_seq ?_
                  refine wc_seq ?_
                  refine wc_region ?_
                  refine wl_val (r_move rfl) (ltn rfl) ?_
                  refine wl_val (r_as (r_add rfl rfl (by omega)) (show Value.int .i64 ((k : Int) + 1) = .int .i64 ((k + 1 : Nat) : Int) by rw [Int.natCast_add]; rfl)) (ltn rfl) ?_
                  refine wl_val (r_move rfl) (ltn rfl) ?_
                  refine wl_val (r_len Try.underlying22 rfl) (ltn rfl) ?_
                  refine wl_val (r_lss rfl rfl) (ltn rfl) ?_
                  refine wl_nil ?_
                  refine wq_seq ?_
                  refine wc_cond rfl (fun h9 => ?_) (fun h9 => ?_)
                  · (try simp only [beq_iff_eq, bne_iff_ne, ne_eq, decide_eq_true_eq, decide_eq_false_iff_not, beq_eq_false_iff_ne, bne_eq_false_iff_eq, Bool.not_eq_true', Bool.not_eq_false', Bool.not_eq_eq_eq_not, Bool.not_true, Bool.not_false, gt_iff_lt, ge_iff_le, Int.not_lt, Int.not_le] at h9)
                    
                    refine wc_seq ?_
                    refine wc_region ?_
                    refine wl_val (r_move rfl) (ltn rfl) ?_
                    refine wl_val (r_as (r_add rfl rfl (by omega)) (show Value.int .i64 ((k : Int) + 1) = .int .i64 ((k + 1 : Nat) : Int) by rw [Int.natCast_add]; rfl)) (ltn rfl) ?_
                    refine wl_val (r_assign rfl) (ltn rfl) ?_
                    refine wl_nil ?_
                    refine wq_seq ?_
                    refine wc_region ?_
                    refine wl_val (r_move rfl) (ltn rfl) ?_
                    refine wl_val (r_move rfl) (ltn rfl) ?_
                    refine wl_val (r_move rfl) (ltn rfl) ?_
                    refine wl_val (r_index Try.underlying22 Try.sizeOf21 rfl rfl (by omega)) (ltn rfl) ?_
                    refine wl_val (r_load (plain_of Try.underlying21 rfl) rfl (by first | exact RdI.at1n (hv _ (H4.right.right)) (by omega) | exact RdI.at0 (hv _ (H4.right.right)) (by omega) | exact RdI.at1 (hv _ (H4.right.right)) (by omega))) (ltn rfl) ?_
                    refine wl_eff (e_lit_ints (k := .i32) (l := [_]) H4 Try.underlying22 Try.sizeOf21 Try.zeroValue21 rfl rfl rfl (by decide)) (ltn rfl) ?_
                    rintro l5 w5 H5
                    refine wl_eff (e_append_ints H5.f2 ((H5).row_rd) Try.underlying22 (show (Try.prog.info? 21).map (fun i => (i.zero, i.size, i.bytes)) = some (some (.int .i32 0), 1, 4) by kernel_rfl) rfl rfl (by first | omega | (simp only [List.length_append, List.length_nil, List.length_cons]; omega) | (simp; omega)) (by first | omega | (simp only [List.length_append, List.length_nil, List.length_cons]; omega) | (simp; omega))) (ltn rfl) ?_
                    rintro l6 w6 H6
                    try simp only [List.nil_append] at H6
                    refine wl_val (r_assign rfl) (ltn rfl) ?_
                    refine wl_nil ?_
                    refine wq_block_normal ?_
                    refine wq_block_normal ?_
                    refine wq_seq ?_
                    refine wc_region ?_
                    refine wl_val (r_move rfl) (ltn rfl) ?_
                    refine wl_val (r_as (r_add rfl rfl (by omega)) ((by first | exact (show Value.int .i64 ((k : Int) + 1) = .int .i64 ((k + 1 : Nat) : Int) from by rw [Int.natCast_add]; rfl) | exact (show Value.int .i64 (((k + 1 : Nat) : Int) + 1) = .int .i64 ((k + 1 + 1 : Nat) : Int) from by rw [Int.natCast_add (k + 1)]; rfl)))) (ltn rfl) ?_
                    refine wl_val (r_assign rfl) (ltn rfl) ?_
                    refine wl_nil ?_
                    refine wq_round (_, _, _) (Sub.cons rfl (Sub.cons rfl (Sub.cons rfl (Sub.nil _)))) (Sub.cons rfl (Sub.nil _)) (by (try dsimp only); exact by first | exact ⟨_, sr_end hsr hkl (by assumption) (by assumption), H6.f2.right.f2.right⟩ | exact ⟨_, sr_open hsr hkl (by assumption) (by omega), H6.f2.right.f2.right⟩ | exact ⟨_, sr_back1 hsr (by omega) (by assumption) (by assumption) hs0 hgo, H6.f2.right.f2.right⟩ | exact ⟨_, sr_back0 hsr (by omega) (by assumption) (by assumption) (by first | exact hgo | exact .inl (by omega) | (rw [show sv = 34 by omega, goes34 (by omega)]; exact .inr (decide_eq_true (in4.1 (by assumption))))), H6.f2.right.f2.right⟩ | exact ⟨_, sr_last hsr hkl (by omega) (by assumption) (by assumption), H6.f2.right.f2.right⟩ | exact ⟨_, sr_stay hsr hkl (by omega) (by omega) (by omega), H6.f2.right.f2.right⟩ | (exfalso; omega)) ?_
                    · (try dsimp only); omega
                  · (try simp only [beq_iff_eq, bne_iff_ne, ne_eq, decide_eq_true_eq, decide_eq_false_iff_not, beq_eq_false_iff_ne, bne_eq_false_iff_eq, Bool.not_eq_true', Bool.not_eq_false', Bool.not_eq_eq_eq_not, Bool.not_true, Bool.not_false, gt_iff_lt, ge_iff_le, Int.not_lt, Int.not_le] at h9)
                    
                    refine wc_skip ?_
                    refine wq_block_normal ?_
                    refine wq_block_normal ?_
                    refine wq_seq ?_
                    refine wc_region ?_
                    refine wl_val (r_move rfl) (ltn rfl) ?_
                    refine wl_val (r_as (r_add rfl rfl (by omega)) ((by first | exact (show Value.int .i64 ((k : Int) + 1) = .int .i64 ((k + 1 : Nat) : Int) from by rw [Int.natCast_add]; rfl) | exact (show Value.int .i64 (((k + 1 : Nat) : Int) + 1) = .int .i64 ((k + 1 + 1 : Nat) : Int) from by rw [Int.natCast_add (k + 1)]; rfl)))) (ltn rfl) ?_
                    refine wl_val (r_assign rfl) (ltn rfl) ?_
                    refine wl_nil ?_
                    refine wq_round (_, _, _) (Sub.cons rfl (Sub.cons rfl (Sub.cons rfl (Sub.nil _)))) (Sub.cons rfl (Sub.nil _)) (by (try dsimp only); exact by first | exact ⟨_, sr_end hsr hkl (by assumption) (by assumption), H4.f2.right⟩ | exact ⟨_, sr_open hsr hkl (by assumption) (by omega), H4.f2.right⟩ | exact ⟨_, sr_back1 hsr (by omega) (by assumption) (by assumption) hs0 hgo, H4.f2.right⟩ | exact ⟨_, sr_back0 hsr (by omega) (by assumption) (by assumption) (by first | exact hgo | exact .inl (by omega) | (rw [show sv = 34 by omega, goes34 (by omega)]; exact .inr (decide_eq_true (in4.1 (by assumption))))), H4.f2.right⟩ | exact ⟨_, sr_last hsr hkl (by omega) (by assumption) (by assumption), H4.f2.right⟩ | exact ⟨_, sr_stay hsr hkl (by omega) (by omega) (by omega), H4.f2.right⟩ | (exfalso; omega)) ?_
                    · (try dsimp only); omega
                · (try simp only [beq_iff_eq, bne_iff_ne, ne_eq, decide_eq_true_eq, decide_eq_false_iff_not, beq_eq_false_iff_ne, bne_eq_false_iff_eq, Bool.not_eq_true', Bool.not_eq_false', Bool.not_eq_eq_eq_not, Bool.not_true, Bool.not_false, gt_iff_lt, ge_iff_le, Int.not_lt, Int.not_le] at h8)
                  refine wl_yes rfl rfl ?_
                  refine wl_val (r_move rfl) (ltn rfl) ?_
                  refine wl_yes rfl rfl ?_
                  refine wl_val (r_eql rfl rfl) (ltn rfl) ?_
                  refine wl_yes rfl rfl ?_
                  refine wl_split rfl (ltn rfl) (fun h10 => ?_) (fun h10 => ?_)
                  · (try simp only [beq_iff_eq, bne_iff_ne, ne_eq, decide_eq_true_eq, decide_eq_false_iff_not, beq_eq_false_iff_ne, bne_eq_false_iff_eq, Bool.not_eq_true', Bool.not_eq_false', Bool.not_eq_eq_eq_not, Bool.not_true, Bool.not_false, gt_iff_lt, ge_iff_le, Int.not_lt, Int.not_le] at h10)
                    refine wl_yes rfl rfl ?_
                    refine wl_val (r_move rfl) (ltn rfl) ?_
                    refine wl_yes rfl rfl ?_
                    refine wl_val (r_move rfl) (ltn rfl) ?_
                    refine wl_yes rfl rfl ?_
                    refine wl_val (r_as (r_add rfl rfl (by omega)) (show Value.int .i64 ((k : Int) + 1) = .int .i64 ((k + 1 : Nat) : Int) by rw [Int.natCast_add]; rfl)) (ltn rfl) ?_
                    refine wl_yes rfl rfl ?_
                    refine wl_val (r_index Try.underlying22 Try.sizeOf21 rfl rfl (by omega)) (ltn rfl) ?_
                    refine wl_yes rfl rfl ?_
                    refine wl_val (r_load (plain_of Try.underlying21 rfl) rfl (by first | exact RdI.at1n (hv _ (HL.right)) (by omega) | exact RdI.at0 (hv _ (HL.right)) (by omega) | exact RdI.at1 (hv _ (HL.right)) (by omega))) (ltn rfl) ?_
                    refine wl_yes rfl rfl ?_
                    refine wl_eff (e_call (r_call rfl Try.func38 rfl rfl) (ref_in_ret (by decide))) (ltn rfl) ?_
                    rintro _ _ ⟨rfl, rfl⟩
                    refine wl_yes rfl rfl ?_
                    refine wl_val (r_not rfl) (ltn rfl) ?_
                    refine wl_yes rfl rfl ?_
                    refine wl_val (r_pick_t rfl rfl) (ltn rfl) ?_
                    refine wl_yes rfl rfl ?_
                    refine wl_val (r_pick_f rfl rfl) (ltn rfl) ?_
                    refine wl_val (r_pick_t rfl rfl) (ltn rfl) ?_
                    refine wl_val (r_assign rfl) (ltn rfl) ?_
                    refine wl_nil ?_
                    refine wq_seq ?_
                    refine wc_seq ?_
                    refine wc_seq ?_
                    refine wc_region ?_
                    refine wl_val (r_move rfl) (ltn rfl) ?_
                    refine wl_nil ?_
                    refine wq_seq ?_
                    refine wc_cond rfl (fun h11 => ?_) (fun h11 => ?_)
                    · (try simp only [beq_iff_eq, bne_iff_ne, ne_eq, decide_eq_true_eq, decide_eq_false_iff_not, beq_eq_false_iff_ne, bne_eq_false_iff_eq, Bool.not_eq_true', Bool.not_eq_false', Bool.not_eq_eq_eq_not, Bool.not_true, Bool.not_false, gt_iff_lt, ge_iff_le, Int.not_lt, Int.not_le] at h11)
                      
                      have hs0 : ¬ sv = 0 := by omega
                      have hgo : goesL sv (l.drop (k + 1)) = false := by first | (rw [show sv = 34 by omega, goes34 (by omega)]; exact decide_eq_false (fun q => absurd (in4.2 q) (by assumption))) | (rw [show sv = 96 by omega, goes96 (by omega)]; exact decide_eq_false (fun q => absurd (in2.2 q) (by assumption)))
                      refine wc_region ?_
                      refine wl_val (r_move rfl) (ltn rfl) ?_
                      refine wl_val (r_move rfl) (ltn rfl) ?_
                      refine wl_eff (e_lit_ints (k := .i32) (l := [_]) HL Try.underlying22 Try.sizeOf21 Try.zeroValue21 rfl rfl rfl (by decide)) (ltn rfl) ?_
                      rintro l8 w8 H8
                      refine wl_eff (e_append_ints H8.f2 ((H8).row_rd) Try.underlying22 (show (Try.prog.info? 21).map (fun i => (i.zero, i.size, i.bytes)) = some (some (.int .i32 0), 1, 4) by kernel_rfl) rfl rfl (by first | omega | (simp only [List.length_append, List.length_nil, List.length_cons]; omega) | (simp; omega)) (by first | omega | (simp only [List.length_append, List.length_nil, List.length_cons]; omega) | (simp; omega))) (ltn rfl) ?_
                      rintro l9 w9 H9
                      try simp only [List.nil_append] at H9
                      refine wl_val (r_assign rfl) (ltn rfl) ?_
                      refine wl_nil ?_
                      refine wq_seq ?_
                      refine wc_seq ?_
                      refine wc_region ?_
                      refine wl_val (r_move rfl) (ltn rfl) ?_
                      refine wl_val (r_as (r_add rfl rfl (by omega)) (show Value.int .i64 ((k : Int) + 1) = .int .i64 ((k + 1 : Nat) : Int) by rw [Int.natCast_add]; rfl)) (ltn rfl) ?_
                      refine wl_val (r_move rfl) (ltn rfl) ?_
                      refine wl_val (r_len Try.underlying22 rfl) (ltn rfl) ?_
                      refine wl_val (r_lss rfl rfl) (ltn rfl) ?_
                      refine wl_nil ?_
                      refine wq_seq ?_
                      refine wc_cond rfl (fun h12 => ?_) (fun h12 => ?_)
                      · (try simp only [beq_iff_eq, bne_iff_ne, ne_eq, decide_eq_true_eq, decide_eq_false_iff_not, beq_eq_false_iff_ne, bne_eq_false_iff_eq, Bool.not_eq_true', Bool.not_eq_false', Bool.not_eq_eq_eq_not, Bool.not_true, Bool.not_false, gt_iff_lt, ge_iff_le, Int.not_lt, Int.not_le] at h12)
                        
                        refine wc_seq ?_
                        refine wc_region ?_
                        refine wl_val (r_move rfl) (ltn rfl) ?_
                        refine wl_val (r_as (r_add rfl rfl (by omega)) (show Value.int .i64 ((k : Int) + 1) = .int .i64 ((k + 1 : Nat) : Int) by rw [Int.natCast_add]; rfl)) (ltn rfl) ?_
                        refine wl_val (r_assign rfl) (ltn rfl) ?_
                        refine wl_nil ?_
                        refine wq_seq ?_
                        refine wc_region ?_
                        refine wl_val (r_move rfl) (ltn rfl) ?_
                        refine wl_val (r_move rfl) (ltn rfl) ?_
                        refine wl_val (r_move rfl) (ltn rfl) ?_
                        refine wl_val (r_index Try.underlying22 Try.sizeOf21 rfl rfl (by omega)) (ltn rfl) ?_
                        refine wl_val (r_load (plain_of Try.underlying21 rfl) rfl (by first | exact RdI.at1n (hv _ (H9.right.right)) (by omega) | exact RdI.at0 (hv _ (H9.right.right)) (by omega) | exact RdI.at1 (hv _ (H9.right.right)) (by omega))) (ltn rfl) ?_
                        refine wl_eff (e_lit_ints (k := .i32) (l := [_]) H9 Try.underlying22 Try.sizeOf21 Try.zeroValue21 rfl rfl rfl (by decide)) (ltn rfl) ?_
                        rintro l10 w10 H10
                        refine wl_eff (e_append_ints H10.f2 ((H10).row_rd) Try.underlying22 (show (Try.prog.info? 21).map (fun i => (i.zero, i.size, i.bytes)) = some (some (.int .i32 0), 1, 4) by kernel_rfl) rfl rfl (by first | omega | (simp only [List.length_append, List.length_nil, List.length_cons]; omega) | (simp; omega)) (by first | omega | (simp only [List.length_append, List.length_nil, List.length_cons]; omega) | (simp; omega))) (ltn rfl) ?_
                        rintro l11 w11 H11
                        try simp only [List.nil_append] at H11
                        refine wl_val (r_assign rfl) (ltn rfl) ?_
                        refine wl_nil ?_
                        refine wq_block_normal ?_
                        refine wq_block_normal ?_
                        refine wq_seq ?_
                        refine wc_region ?_
                        refine wl_val (r_move rfl) (ltn rfl) ?_
                        refine wl_val (r_as (r_add rfl rfl (by omega)) ((by first | exact (show Value.int .i64 ((k : Int) + 1) = .int .i64 ((k + 1 : Nat) : Int) from by rw [Int.natCast_add]; rfl) | exact (show Value.int .i64 (((k + 1 : Nat) : Int) + 1) = .int .i64 ((k + 1 + 1 : Nat) : Int) from by rw [Int.natCast_add (k + 1)]; rfl)))) (ltn rfl) ?_
                        refine wl_val (r_assign rfl) (ltn rfl) ?_
                        refine wl_nil ?_
                        refine wq_round (_, _, _) (Sub.cons rfl (Sub.cons rfl (Sub.cons rfl (Sub.nil _)))) (Sub.cons rfl (Sub.nil _)) (by (try dsimp only); exact by first | exact ⟨_, sr_end hsr hkl (by assumption) (by assumption), H11.f2.right.f2.right⟩ | exact ⟨_, sr_open hsr hkl (by assumption) (by omega), H11.f2.right.f2.right⟩ | exact ⟨_, sr_back1 hsr (by omega) (by assumption) (by assumption) hs0 hgo, H11.f2.right.f2.right⟩ | exact ⟨_, sr_back0 hsr (by omega) (by assumption) (by assumption) (by first | exact hgo | exact .inl (by omega) | (rw [show sv = 34 by omega, goes34 (by omega)]; exact .inr (decide_eq_true (in4.1 (by assumption))))), H11.f2.right.f2.right⟩ | exact ⟨_, sr_last hsr hkl (by omega) (by assumption) (by assumption), H11.f2.right.f2.right⟩ | exact ⟨_, sr_stay hsr hkl (by omega) (by omega) (by omega), H11.f2.right.f2.right⟩ | (exfalso; omega)) ?_
                        · (try dsimp only); omega
                      · (try simp only [beq_iff_eq, bne_iff_ne, ne_eq, decide_eq_true_eq, decide_eq_false_iff_not, beq_eq_false_iff_ne, bne_eq_false_iff_eq, Bool.not_eq_true', Bool.not_eq_false', Bool.not_eq_eq_eq_not, Bool.not_true, Bool.not_false, gt_iff_lt, ge_iff_le, Int.not_lt, Int.not_le] at h12)
                        
                        refine wc_skip ?_
                        refine wq_block_normal ?_
                        refine wq_block_normal ?_
                        refine wq_seq ?_
                        refine wc_region ?_
                        refine wl_val (r_move rfl) (ltn rfl) ?_
                        refine wl_val (r_as (r_add rfl rfl (by omega)) ((by first | exact (show Value.int .i64 ((k : Int) + 1) = .int .i64 ((k + 1 : Nat) : Int) from by rw [Int.natCast_add]; rfl) | exact (show Value.int .i64 (((k + 1 : Nat) : Int) + 1) = .int .i64 ((k + 1 + 1 : Nat) : Int) from by rw [Int.natCast_add (k + 1)]; rfl)))) (ltn rfl) ?_
                        refine wl_val (r_assign rfl) (ltn rfl) ?_
                        refine wl_nil ?_
                        refine wq_round (_, _, _) (Sub.cons rfl (Sub.cons rfl (Sub.cons rfl (Sub.nil _)))) (Sub.cons rfl (Sub.nil _)) (by (try dsimp only); exact by first | exact ⟨_, sr_end hsr hkl (by assumption) (by assumption), H9.f2.right⟩ | exact ⟨_, sr_open hsr hkl (by assumption) (by omega), H9.f2.right⟩ | exact ⟨_, sr_back1 hsr (by omega) (by assumption) (by assumption) hs0 hgo, H9.f2.right⟩ | exact ⟨_, sr_back0 hsr (by omega) (by assumption) (by assumption) (by first | exact hgo | exact .inl (by omega) | (rw [show sv = 34 by omega, goes34 (by omega)]; exact .inr (decide_eq_true (in4.1 (by assumption))))), H9.f2.right⟩ | exact ⟨_, sr_last hsr hkl (by omega) (by assumption) (by assumption), H9.f2.right⟩ | exact ⟨_, sr_stay hsr hkl (by omega) (by omega) (by omega), H9.f2.right⟩ | (exfalso; omega)) ?_
                        · (try dsimp only); omega
                    · (try simp only [beq_iff_eq, bne_iff_ne, ne_eq, decide_eq_true_eq, decide_eq_false_iff_not, beq_eq_false_iff_ne, bne_eq_false_iff_eq, Bool.not_eq_true', Bool.not_eq_false', Bool.not_eq_eq_eq_not, Bool.not_true, Bool.not_false, gt_iff_lt, ge_iff_le, Int.not_lt, Int.not_le] at h11)
                      try have hgo : sv = 0 ∨ goesL sv (l.drop (k + 1)) = true := by first | (exact .inl (by omega)) | (rw [show sv = 34 by omega, goes34 (by omega)]; exact .inr (decide_eq_true (in4.1 (by assumption)))) | (rw [show sv = 96 by omega, goes96 (by omega)]; exact .inr (decide_eq_true (in2.1 (by assumption))))
                      refine wc_skip ?_
                      refine wq_seq ?_
                      refine wc_seq ?_
                      refine wc_region ?_
                      refine wl_val (r_move rfl) (ltn rfl) ?_
                      refine wl_val (r_as (r_add rfl rfl (by omega)) (show Value.int .i64 ((k : Int) + 1) = .int .i64 ((k + 1 : Nat) : Int) by rw [Int.natCast_add]; rfl)) (ltn rfl) ?_
                      refine wl_val (r_move rfl) (ltn rfl) ?_
                      refine wl_val (r_len Try.underlying22 rfl) (ltn rfl) ?_
                      refine wl_val (r_lss rfl rfl) (ltn rfl) ?_
                      refine wl_nil ?_
                      refine wq_seq ?_
                      refine wc_cond rfl (fun h13 => ?_) (fun h13 => ?_)
                      · (try simp only [beq_iff_eq, bne_iff_ne, ne_eq, decide_eq_true_eq, decide_eq_false_iff_not, beq_eq_false_iff_ne, bne_eq_false_iff_eq, Bool.not_eq_true', Bool.not_eq_false', Bool.not_eq_eq_eq_not, Bool.not_true, Bool.not_false, gt_iff_lt, ge_iff_le, Int.not_lt, Int.not_le] at h13)
                        
                        refine wc_seq ?_
                        refine wc_region ?_
                        refine wl_val (r_move rfl) (ltn rfl) ?_
                        refine wl_val (r_as (r_add rfl rfl (by omega)) (show Value.int .i64 ((k : Int) + 1) = .int .i64 ((k + 1 : Nat) : Int) by rw [Int.natCast_add]; rfl)) (ltn rfl) ?_
                        refine wl_val (r_assign rfl) (ltn rfl) ?_
                        refine wl_nil ?_
                        refine wq_seq ?_
                        refine wc_region ?_
                        refine wl_val (r_move rfl) (ltn rfl) ?_
                        refine wl_val (r_move rfl) (ltn rfl) ?_
                        refine wl_val (r_move rfl) (ltn rfl) ?_
                        refine wl_val (r_index Try.underlying22 Try.sizeOf21 rfl rfl (by omega)) (ltn rfl) ?_
                        refine wl_val (r_load (plain_of Try.underlying21 rfl) rfl (by first | exact RdI.at1n (hv _ (HL.right)) (by omega) | exact RdI.at0 (hv _ (HL.right)) (by omega) | exact RdI.at1 (hv _ (HL.right)) (by omega))) (ltn rfl) ?_
                        refine wl_eff (e_lit_ints (k := .i32) (l := [_]) HL Try.underlying22 Try.sizeOf21 Try.zeroValue21 rfl rfl rfl (by decide)) (ltn rfl) ?_
                        rintro l12 w12 H12
                        refine wl_eff (e_append_ints H12.f2 ((H12).row_rd) Try.underlying22 (show (Try.prog.info? 21).map (fun i => (i.zero, i.size, i.bytes)) = some (some (.int .i32 0), 1, 4) by kernel_rfl) rfl rfl (by first | omega | (simp only [List.length_append, List.length_nil, List.length_cons]; omega) | (simp; omega)) (by first | omega | (simp only [List.length_append, List.length_nil, List.length_cons]; omega) | (simp; omega))) (ltn rfl) ?_
                        rintro l13 w13 H13
                        try simp only [List.nil_append] at H13
                        refine wl_val (r_assign rfl) (ltn rfl) ?_
                        refine wl_nil ?_
                        refine wq_block_normal ?_
                        refine wq_block_normal ?_
                        refine wq_seq ?_
                        refine wc_region ?_
                        refine wl_val (r_move rfl) (ltn rfl) ?_
                        refine wl_val (r_as (r_add rfl rfl (by omega)) ((by first | exact (show Value.int .i64 ((k : Int) + 1) = .int .i64 ((k + 1 : Nat) : Int) from by rw [Int.natCast_add]; rfl) | exact (show Value.int .i64 (((k + 1 : Nat) : Int) + 1) = .int .i64 ((k + 1 + 1 : Nat) : Int) from by rw [Int.natCast_add (k + 1)]; rfl)))) (ltn rfl) ?_
                        refine wl_val (r_assign rfl) (ltn rfl) ?_
                        refine wl_nil ?_
                        refine wq_round (_, _, _) (Sub.cons rfl (Sub.cons rfl (Sub.cons rfl (Sub.nil _)))) (Sub.cons rfl (Sub.nil _)) (by (try dsimp only); exact by first | exact ⟨_, sr_end hsr hkl (by assumption) (by assumption), H13.f2.right⟩ | exact ⟨_, sr_open hsr hkl (by assumption) (by omega), H13.f2.right⟩ | exact ⟨_, sr_back1 hsr (by omega) (by assumption) (by assumption) hs0 hgo, H13.f2.right⟩ | exact ⟨_, sr_back0 hsr (by omega) (by assumption) (by assumption) (by first | exact hgo | exact .inl (by omega) | (rw [show sv = 34 by omega, goes34 (by omega)]; exact .inr (decide_eq_true (in4.1 (by assumption))))), H13.f2.right⟩ | exact ⟨_, sr_last hsr hkl (by omega) (by assumption) (by assumption), H13.f2.right⟩ | exact ⟨_, sr_stay hsr hkl (by omega) (by omega) (by omega), H13.f2.right⟩ | (exfalso; omega)) ?_
                        · (try dsimp only); omega
                      · (try simp only [beq_iff_eq, bne_iff_ne, ne_eq, decide_eq_true_eq, decide_eq_false_iff_not, beq_eq_false_iff_ne, bne_eq_false_iff_eq, Bool.not_eq_true', Bool.not_eq_false', Bool.not_eq_eq_eq_not, Bool.not_true, Bool.not_false, gt_iff_lt, ge_iff_le, Int.not_lt, Int.not_le] at h13)
                        
                        refine wc_skip ?_
                        refine wq_block_normal ?_
                        refine wq_block_normal ?_
                        refine wq_seq ?_
                        refine wc_region ?_
                        refine wl_val (r_move rfl) (ltn rfl) ?_
                        refine wl_val (r_as (r_add rfl rfl (by omega)) ((by first | exact (show Value.int .i64 ((k : Int) + 1) = .int .i64 ((k + 1 : Nat) : Int) from by rw [Int.natCast_add]; rfl) | exact (show Value.int .i64 (((k + 1 : Nat) : Int) + 1) = .int .i64 ((k + 1 + 1 : Nat) : Int) from by rw [Int.natCast_add (k + 1)]; rfl)))) (ltn rfl) ?_
                        refine wl_val (r_assign rfl) (ltn rfl) ?_
                        refine wl_nil ?_
                        refine wq_round (_, _, _) (Sub.cons rfl (Sub.cons rfl (Sub.cons rfl (Sub.nil _)))) (Sub.cons rfl (Sub.nil _)) (by (try dsimp only); exact by first | exact ⟨_, sr_end hsr hkl (by assumption) (by assumption), HL⟩ | exact ⟨_, sr_open hsr hkl (by assumption) (by omega), HL⟩ | exact ⟨_, sr_back1 hsr (by omega) (by assumption) (by assumption) hs0 hgo, HL⟩ | exact ⟨_, sr_back0 hsr (by omega) (by assumption) (by assumption) (by first | exact hgo | exact .inl (by omega) | (rw [show sv = 34 by omega, goes34 (by omega)]; exact .inr (decide_eq_true (in4.1 (by assumption))))), HL⟩ | exact ⟨_, sr_last hsr hkl (by omega) (by assumption) (by assumption), HL⟩ | exact ⟨_, sr_stay hsr hkl (by omega) (by omega) (by omega), HL⟩ | (exfalso; omega)) ?_
                        · (try dsimp only); omega
                  · (try simp only [beq_iff_eq, bne_iff_ne, ne_eq, decide_eq_true_eq, decide_eq_false_iff_not, beq_eq_false_iff_ne, bne_eq_false_iff_eq, Bool.not_eq_true', Bool.not_eq_false', Bool.not_eq_eq_eq_not, Bool.not_true, Bool.not_false, gt_iff_lt, ge_iff_le, Int.not_lt, Int.not_le] at h10)
                    refine wl_no rfl rfl rfl (ltn rfl) ?_
                    refine wl_no rfl rfl rfl (ltn rfl) ?_
                    refine wl_no rfl rfl rfl (ltn rfl) ?_
                    refine wl_no rfl rfl rfl (ltn rfl) ?_
                    refine wl_no rfl rfl rfl (ltn rfl) ?_
                    refine wl_no rfl rfl rfl (ltn rfl) ?_
                    refine wl_no rfl rfl rfl (ltn rfl) ?_
                    refine wl_yes rfl rfl ?_
                    refine wl_val (r_pick_f rfl rfl) (ltn rfl) ?_
                    refine wl_yes rfl rfl ?_
                    refine wl_val (r_pick_f rfl rfl) (ltn rfl) ?_
                    refine wl_val (r_pick_t rfl rfl) (ltn rfl) ?_
                    refine wl_val (r_assign rfl) (ltn rfl) ?_
                    refine wl_nil ?_
                    refine wq_seq ?_
                    refine wc_seq ?_
                    refine wc_seq ?_
                    refine wc_region ?_
                    refine wl_val (r_move rfl) (ltn rfl) ?_
                    refine wl_nil ?_
                    refine wq_seq ?_
                    refine wc_cond_f rfl ?_
                    refine wc_skip ?_
                    refine wq_seq ?_
                    refine wc_seq ?_
                    refine wc_region ?_
                    refine wl_val (r_move rfl) (ltn rfl) ?_
                    refine wl_val (r_as (r_add rfl rfl (by omega)) (show Value.int .i64 ((k : Int) + 1) = .int .i64 ((k + 1 : Nat) : Int) by rw [Int.natCast_add]; rfl)) (ltn rfl) ?_
                    refine wl_val (r_move rfl) (ltn rfl) ?_
                    refine wl_val (r_len Try.underlying22 rfl) (ltn rfl) ?_
                    refine wl_val (r_lss rfl rfl) (ltn rfl) ?_
                    refine wl_nil ?_
                    refine wq_seq ?_
                    refine wc_cond rfl (fun h14 => ?_) (fun h14 => ?_)
                    · (try simp only [beq_iff_eq, bne_iff_ne, ne_eq, decide_eq_true_eq, decide_eq_false_iff_not, beq_eq_false_iff_ne, bne_eq_false_iff_eq, Bool.not_eq_true', Bool.not_eq_false', Bool.not_eq_eq_eq_not, Bool.not_true, Bool.not_false, gt_iff_lt, ge_iff_le, Int.not_lt, Int.not_le] at h14)
                      
                      refine wc_seq ?_
                      refine wc_region ?_
                      refine wl_val (r_move rfl) (ltn rfl) ?_
                      refine wl_val (r_as (r_add rfl rfl (by omega)) (show Value.int .i64 ((k : Int) + 1) = .int .i64 ((k + 1 : Nat) : Int) by rw [Int.natCast_add]; rfl)) (ltn rfl) ?_
                      refine wl_val (r_assign rfl) (ltn rfl) ?_
                      refine wl_nil ?_
                      refine wq_seq ?_
                      refine wc_region ?_
                      refine wl_val (r_move rfl) (ltn rfl) ?_
                      refine wl_val (r_move rfl) (ltn rfl) ?_
                      refine wl_val (r_move rfl) (ltn rfl) ?_
                      refine wl_val (r_index Try.underlying22 Try.sizeOf21 rfl rfl (by omega)) (ltn rfl) ?_
                      refine wl_val (r_load (plain_of Try.underlying21 rfl) rfl (by first | exact RdI.at1n (hv _ (HL.right)) (by omega) | exact RdI.at0 (hv _ (HL.right)) (by omega) | exact RdI.at1 (hv _ (HL.right)) (by omega))) (ltn rfl) ?_
                      refine wl_eff (e_lit_ints (k := .i32) (l := [_]) HL Try.underlying22 Try.sizeOf21 Try.zeroValue21 rfl rfl rfl (by decide)) (ltn rfl) ?_
                      rintro l14 w14 H14
                      refine wl_eff (e_append_ints H14.f2 ((H14).row_rd) Try.underlying22 (show (Try.prog.info? 21).map (fun i => (i.zero, i.size, i.bytes)) = some (some (.int .i32 0), 1, 4) by kernel_rfl) rfl rfl (by first | omega | (simp only [List.length_append, List.length_nil, List.length_cons]; omega) | (simp; omega)) (by first | omega | (simp only [List.length_append, List.length_nil, List.length_cons]; omega) | (simp; omega))) (ltn rfl) ?_
                      rintro l15 w15 H15
                      try simp only [List.nil_append] at H15
                      refine wl_val (r_assign rfl) (ltn rfl) ?_
                      refine wl_nil ?_
                      refine wq_block_normal ?_
                      refine wq_block_normal ?_
                      refine wq_seq ?_
                      refine wc_region ?_
                      refine wl_val (r_move rfl) (ltn rfl) ?_
                      refine wl_val (r_as (r_add rfl rfl (by omega)) ((by first | exact (show Value.int .i64 ((k : Int) + 1) = .int .i64 ((k + 1 : Nat) : Int) from by rw [Int.natCast_add]; rfl) | exact (show Value.int .i64 (((k + 1 : Nat) : Int) + 1) = .int .i64 ((k + 1 + 1 : Nat) : Int) from by rw [Int.natCast_add (k + 1)]; rfl)))) (ltn rfl) ?_
                      refine wl_val (r_assign rfl) (ltn rfl) ?_
                      refine wl_nil ?_
                      refine wq_round (_, _, _) (Sub.cons rfl (Sub.cons rfl (Sub.cons rfl (Sub.nil _)))) (Sub.cons rfl (Sub.nil _)) (by (try dsimp only); exact by first | exact ⟨_, sr_end hsr hkl (by assumption) (by assumption), H15.f2.right⟩ | exact ⟨_, sr_open hsr hkl (by assumption) (by omega), H15.f2.right⟩ | exact ⟨_, sr_back1 hsr (by omega) (by assumption) (by assumption) hs0 hgo, H15.f2.right⟩ | exact ⟨_, sr_back0 hsr (by omega) (by assumption) (by assumption) (by first | exact hgo | exact .inl (by omega) | (rw [show sv = 34 by omega, goes34 (by omega)]; exact .inr (decide_eq_true (in4.1 (by assumption))))), H15.f2.right⟩ | exact ⟨_, sr_last hsr hkl (by omega) (by assumption) (by assumption), H15.f2.right⟩ | exact ⟨_, sr_stay hsr hkl (by omega) (by omega) (by omega), H15.f2.right⟩ | (exfalso; omega)) ?_
                      · (try dsimp only); omega
                    · (try simp only [beq_iff_eq, bne_iff_ne, ne_eq, decide_eq_true_eq, decide_eq_false_iff_not, beq_eq_false_iff_ne, bne_eq_false_iff_eq, Bool.not_eq_true', Bool.not_eq_false', Bool.not_eq_eq_eq_not, Bool.not_true, Bool.not_false, gt_iff_lt, ge_iff_le, Int.not_lt, Int.not_le] at h14)
                      
                      refine wc_skip ?_
                      refine wq_block_normal ?_
                      refine wq_block_normal ?_
                      refine wq_seq ?_
                      refine wc_region ?_
                      refine wl_val (r_move rfl) (ltn rfl) ?_
                      refine wl_val (r_as (r_add rfl rfl (by omega)) ((by first | exact (show Value.int .i64 ((k : Int) + 1) = .int .i64 ((k + 1 : Nat) : Int) from by rw [Int.natCast_add]; rfl) | exact (show Value.int .i64 (((k + 1 : Nat) : Int) + 1) = .int .i64 ((k + 1 + 1 : Nat) : Int) from by rw [Int.natCast_add (k + 1)]; rfl)))) (ltn rfl) ?_
                      refine wl_val (r_assign rfl) (ltn rfl) ?_
                      refine wl_nil ?_
                      refine wq_round (_, _, _) (Sub.cons rfl (Sub.cons rfl (Sub.cons rfl (Sub.nil _)))) (Sub.cons rfl (Sub.nil _)) (by (try dsimp only); exact by first | exact ⟨_, sr_end hsr hkl (by assumption) (by assumption), HL⟩ | exact ⟨_, sr_open hsr hkl (by assumption) (by omega), HL⟩ | exact ⟨_, sr_back1 hsr (by omega) (by assumption) (by assumption) hs0 hgo, HL⟩ | exact ⟨_, sr_back0 hsr (by omega) (by assumption) (by assumption) (by first | exact hgo | exact .inl (by omega) | (rw [show sv = 34 by omega, goes34 (by omega)]; exact .inr (decide_eq_true (in4.1 (by assumption))))), HL⟩ | exact ⟨_, sr_last hsr hkl (by omega) (by assumption) (by assumption), HL⟩ | exact ⟨_, sr_stay hsr hkl (by omega) (by omega) (by omega), HL⟩ | (exfalso; omega)) ?_
                      · (try dsimp only); omega
              · (try simp only [beq_iff_eq, bne_iff_ne, ne_eq, decide_eq_true_eq, decide_eq_false_iff_not, beq_eq_false_iff_ne, bne_eq_false_iff_eq, Bool.not_eq_true', Bool.not_eq_false', Bool.not_eq_eq_eq_not, Bool.not_true, Bool.not_false, gt_iff_lt, ge_iff_le, Int.not_lt, Int.not_le] at h7)
                refine wl_no rfl rfl rfl (ltn rfl) ?_
                refine wl_no rfl rfl rfl (ltn rfl) ?_
                refine wl_no rfl rfl rfl (ltn rfl) ?_
                refine wl_no rfl rfl rfl (ltn rfl) ?_
                refine wl_no rfl rfl rfl (ltn rfl) ?_
                refine wl_no rfl rfl rfl (ltn rfl) ?_
                refine wl_no rfl rfl rfl (ltn rfl) ?_
                refine wl_yes rfl rfl ?_
                refine wl_val (r_pick_f rfl rfl) (ltn rfl) ?_
                refine wl_yes rfl rfl ?_
                refine wl_val (r_move rfl) (ltn rfl) ?_
                refine wl_yes rfl rfl ?_
                refine wl_val (r_move rfl) (ltn rfl) ?_
                refine wl_yes rfl rfl ?_
                refine wl_val (r_eql rfl rfl) (ltn rfl) ?_
                refine wl_yes rfl rfl ?_
                refine wl_split rfl (ltn rfl) (fun h15 => ?_) (fun h15 => ?_)
                · (try simp only [beq_iff_eq, bne_iff_ne, ne_eq, decide_eq_true_eq, decide_eq_false_iff_not, beq_eq_false_iff_ne, bne_eq_false_iff_eq, Bool.not_eq_true', Bool.not_eq_false', Bool.not_eq_eq_eq_not, Bool.not_true, Bool.not_false, gt_iff_lt, ge_iff_le, Int.not_lt, Int.not_le] at h15)
                  refine wl_yes rfl rfl ?_
                  refine wl_val (r_move rfl) (ltn rfl) ?_
                  refine wl_yes rfl rfl ?_
                  refine wl_val (r_move rfl) (ltn rfl) ?_
                  refine wl_yes rfl rfl ?_
                  refine wl_val (r_as (r_add rfl rfl (by omega)) (show Value.int .i64 ((k : Int) + 1) = .int .i64 ((k + 1 : Nat) : Int) by rw [Int.natCast_add]; rfl)) (ltn rfl) ?_
                  refine wl_yes rfl rfl ?_
                  refine wl_val (r_index Try.underlying22 Try.sizeOf21 rfl rfl (by omega)) (ltn rfl) ?_
                  refine wl_yes rfl rfl ?_
                  refine wl_val (r_load (plain_of Try.underlying21 rfl) rfl (by first | exact RdI.at1n (hv _ (HL.right)) (by omega) | exact RdI.at0 (hv _ (HL.right)) (by omega) | exact RdI.at1 (hv _ (HL.right)) (by omega))) (ltn rfl) ?_
                  refine wl_yes rfl rfl ?_
                  refine wl_eff (e_call (r_call rfl Try.func38 rfl rfl) (ref_in_ret (by decide))) (ltn rfl) ?_
                  rintro _ _ ⟨rfl, rfl⟩
                  refine wl_yes rfl rfl ?_
                  refine wl_val (r_not rfl) (ltn rfl) ?_
                  refine wl_yes rfl rfl ?_
                  refine wl_val (r_pick_t rfl rfl) (ltn rfl) ?_
                  refine wl_yes rfl rfl ?_
                  refine wl_val (r_pick_f rfl rfl) (ltn rfl) ?_
                  refine wl_val (r_pick_t rfl rfl) (ltn rfl) ?_
                  refine wl_val (r_assign rfl) (ltn rfl) ?_
                  refine wl_nil ?_
                  refine wq_seq ?_
                  refine wc_seq ?_
                  refine wc_seq ?_
                  refine wc_region ?_
                  refine wl_val (r_move rfl) (ltn rfl) ?_
                  refine wl_nil ?_
                  refine wq_seq ?_
                  refine wc_cond rfl (fun h16 => ?_) (fun h16 => ?_)
                  · (try simp only [beq_iff_eq, bne_iff_ne, ne_eq, decide_eq_true_eq, decide_eq_false_iff_not, beq_eq_false_iff_ne, bne_eq_false_iff_eq, Bool.not_eq_true', Bool.not_eq_false', Bool.not_eq_eq_eq_not, Bool.not_true, Bool.not_false, gt_iff_lt, ge_iff_le, Int.not_lt, Int.not_le] at h16)
                    
                    have hs0 : ¬ sv = 0 := by omega
                    have hgo : goesL sv (l.drop (k + 1)) = false := by first | (rw [show sv = 34 by omega, goes34 (by omega)]; exact decide_eq_false (fun q => absurd (in4.2 q) (by assumption))) | (rw [show sv = 96 by omega, goes96 (by omega)]; exact decide_eq_false (fun q => absurd (in2.2 q) (by assumption)))
                    refine wc_region ?_
                    refine wl_val (r_move rfl) (ltn rfl) ?_
                    refine wl_val (r_move rfl) (ltn rfl) ?_
                    refine wl_eff (e_lit_ints (k := .i32) (l := [_]) HL Try.underlying22 Try.sizeOf21 Try.zeroValue21 rfl rfl rfl (by decide)) (ltn rfl) ?_
                    rintro l17 w17 H17
                    refine wl_eff (e_append_ints H17.f2 ((H17).row_rd) Try.underlying22 (show (Try.prog.info? 21).map (fun i => (i.zero, i.size, i.bytes)) = some (some (.int .i32 0), 1, 4) by kernel_rfl) rfl rfl (by first | omega | (simp only [List.length_append, List.length_nil, List.length_cons]; omega) | (simp; omega)) (by first | omega | (simp only [List.length_append, List.length_nil, List.length_cons]; omega) | (simp; omega))) (ltn rfl) ?_
                    rintro l18 w18 H18
                    try simp only [List.nil_append] at H18
                    refine wl_val (r_assign rfl) (ltn rfl) ?_
                    refine wl_nil ?_
                    refine wq_seq ?_
                    refine wc_seq ?_
                    refine wc_region ?_
                    refine wl_val (r_move rfl) (ltn rfl) ?_
                    refine wl_val (r_as (r_add rfl rfl (by omega)) (show Value.int .i64 ((k : Int) + 1) = .int .i64 ((k + 1 : Nat) : Int) by rw [Int.natCast_add]; rfl)) (ltn rfl) ?_
                    refine wl_val (r_move rfl) (ltn rfl) ?_
                    refine wl_val (r_len Try.underlying22 rfl) (ltn rfl) ?_
                    refine wl_val (r_lss rfl rfl) (ltn rfl) ?_
                    refine wl_nil ?_
                    refine wq_seq ?_
                    refine wc_cond rfl (fun h17 => ?_) (fun h17 => ?_)
                    · (try simp only [beq_iff_eq, bne_iff_ne, ne_eq, decide_eq_true_eq, decide_eq_false_iff_not, beq_eq_false_iff_ne, bne_eq_false_iff_eq, Bool.not_eq_true', Bool.not_eq_false', Bool.not_eq_eq_eq_not, Bool.not_true, Bool.not_false, gt_iff_lt, ge_iff_le, Int.not_lt, Int.not_le] at h17)
                      
                      refine wc_seq ?_
                      refine wc_region ?_
                      refine wl_val (r_move rfl) (ltn rfl) ?_
                      refine wl_val (r_as (r_add rfl rfl (by omega)) (show Value.int .i64 ((k : Int) + 1) = .int .i64 ((k + 1 : Nat) : Int) by rw [Int.natCast_add]; rfl)) (ltn rfl) ?_
                      refine wl_val (r_assign rfl) (ltn rfl) ?_
                      refine wl_nil ?_
                      refine wq_seq ?_
                      refine wc_region ?_
                      refine wl_val (r_move rfl) (ltn rfl) ?_
                      refine wl_val (r_move rfl) (ltn rfl) ?_
                      refine wl_val (r_move rfl) (ltn rfl) ?_
                      refine wl_val (r_index Try.underlying22 Try.sizeOf21 rfl rfl (by omega)) (ltn rfl) ?_
                      refine wl_val (r_load (plain_of Try.underlying21 rfl) rfl (by first | exact RdI.at1n (hv _ (H18.right.right)) (by omega) | exact RdI.at0 (hv _ (H18.right.right)) (by omega) | exact RdI.at1 (hv _ (H18.right.right)) (by omega))) (ltn rfl) ?_
                      refine wl_eff (e_lit_ints (k := .i32) (l := [_]) H18 Try.underlying22 Try.sizeOf21 Try.zeroValue21 rfl rfl rfl (by decide)) (ltn rfl) ?_
                      rintro l19 w19 H19
                      refine wl_eff (e_append_ints H19.f2 ((H19).row_rd) Try.underlying22 (show (Try.prog.info? 21).map (fun i => (i.zero, i.size, i.bytes)) = some (some (.int .i32 0), 1, 4) by kernel_rfl) rfl rfl (by first | omega | (simp only [List.length_append, List.length_nil, List.length_cons]; omega) | (simp; omega)) (by first | omega | (simp only [List.length_append, List.length_nil, List.length_cons]; omega) | (simp; omega))) (ltn rfl) ?_
                      rintro l20 w20 H20
                      try simp only [List.nil_append] at H20
                      refine wl_val (r_assign rfl) (ltn rfl) ?_
                      refine wl_nil ?_
                      refine wq_block_normal ?_
                      refine wq_block_normal ?_
                      refine wq_seq ?_
                      refine wc_region ?_
                      refine wl_val (r_move rfl) (ltn rfl) ?_
                      refine wl_val (r_as (r_add rfl rfl (by omega)) ((by first | exact (show Value.int .i64 ((k : Int) + 1) = .int .i64 ((k + 1 : Nat) : Int) from by rw [Int.natCast_add]; rfl) | exact (show Value.int .i64 (((k + 1 : Nat) : Int) + 1) = .int .i64 ((k + 1 + 1 : Nat) : Int) from by rw [Int.natCast_add (k + 1)]; rfl)))) (ltn rfl) ?_
                      refine wl_val (r_assign rfl) (ltn rfl) ?_
                      refine wl_nil ?_
                      refine wq_round (_, _, _) (Sub.cons rfl (Sub.cons rfl (Sub.cons rfl (Sub.nil _)))) (Sub.cons rfl (Sub.nil _)) (by (try dsimp only); exact by first | exact ⟨_, sr_end hsr hkl (by assumption) (by assumption), H20.f2.right.f2.right⟩ | exact ⟨_, sr_open hsr hkl (by assumption) (by omega), H20.f2.right.f2.right⟩ | exact ⟨_, sr_back1 hsr (by omega) (by assumption) (by assumption) hs0 hgo, H20.f2.right.f2.right⟩ | exact ⟨_, sr_back0 hsr (by omega) (by assumption) (by assumption) (by first | exact hgo | exact .inl (by omega) | (rw [show sv = 34 by omega, goes34 (by omega)]; exact .inr (decide_eq_true (in4.1 (by assumption))))), H20.f2.right.f2.right⟩ | exact ⟨_, sr_last hsr hkl (by omega) (by assumption) (by assumption), H20.f2.right.f2.right⟩ | exact ⟨_, sr_stay hsr hkl (by omega) (by omega) (by omega), H20.f2.right.f2.right⟩ | (exfalso; omega)) ?_
                      · (try dsimp only); omega
                    · (try simp only [beq_iff_eq, bne_iff_ne, ne_eq, decide_eq_true_eq, decide_eq_false_iff_not, beq_eq_false_iff_ne, bne_eq_false_iff_eq, Bool.not_eq_true', Bool.not_eq_false', Bool.not_eq_eq_eq_not, Bool.not_true, Bool.not_false, gt_iff_lt, ge_iff_le, Int.not_lt, Int.not_le] at h17)
                      
                      refine wc_skip ?_
                      refine wq_block_normal ?_
                      refine wq_block_normal ?_
                      refine wq_seq ?_
                      refine wc_region ?_
                      refine wl_val (r_move rfl) (ltn rfl) ?_
                      refine wl_val (r_as (r_add rfl rfl (by omega)) ((by first | exact (show Value.int .i64 ((k : Int) + 1) = .int .i64 ((k + 1 : Nat) : Int) from by rw [Int.natCast_add]; rfl) | exact (show Value.int .i64 (((k + 1 : Nat) : Int) + 1) = .int .i64 ((k + 1 + 1 : Nat) : Int) from by rw [Int.natCast_add (k + 1)]; rfl)))) (ltn rfl) ?_
                      refine wl_val (r_assign rfl) (ltn rfl) ?_
                      refine wl_nil ?_
                      refine wq_round (_, _, _) (Sub.cons rfl (Sub.cons rfl (Sub.cons rfl (Sub.nil _)))) (Sub.cons rfl (Sub.nil _)) (by (try dsimp only); exact by first | exact ⟨_, sr_end hsr hkl (by assumption) (by assumption), H18.f2.right⟩ | exact ⟨_, sr_open hsr hkl (by assumption) (by omega), H18.f2.right⟩ | exact ⟨_, sr_back1 hsr (by omega) (by assumption) (by assumption) hs0 hgo, H18.f2.right⟩ | exact ⟨_, sr_back0 hsr (by omega) (by assumption) (by assumption) (by first | exact hgo | exact .inl (by omega) | (rw [show sv = 34 by omega, goes34 (by omega)]; exact .inr (decide_eq_true (in4.1 (by assumption))))), H18.f2.right⟩ | exact ⟨_, sr_last hsr hkl (by omega) (by assumption) (by assumption), H18.f2.right⟩ | exact ⟨_, sr_stay hsr hkl (by omega) (by omega) (by omega), H18.f2.right⟩ | (exfalso; omega)) ?_
                      · (try dsimp only); omega
                  · (try simp only [beq_iff_eq, bne_iff_ne, ne_eq, decide_eq_true_eq, decide_eq_false_iff_not, beq_eq_false_iff_ne, bne_eq_false_iff_eq, Bool.not_eq_true', Bool.not_eq_false', Bool.not_eq_eq_eq_not, Bool.not_true, Bool.not_false, gt_iff_lt, ge_iff_le, Int.not_lt, Int.not_le] at h16)
                    try have hgo : sv = 0 ∨ goesL sv (l.drop (k + 1)) = true := by first | (exact .inl (by omega)) | (rw [show sv = 34 by omega, goes34 (by omega)]; exact .inr (decide_eq_true (in4.1 (by assumption)))) | (rw [show sv = 96 by omega, goes96 (by omega)]; exact .inr (decide_eq_true (in2.1 (by assumption))))
                    refine wc_skip ?_
                    refine wq_seq ?_
                    refine wc_seq ?_
                    refine wc_region ?_
                    refine wl_val (r_move rfl) (ltn rfl) ?_
                    refine wl_val (r_as (r_add rfl rfl (by omega)) (show Value.int .i64 ((k : Int) + 1) = .int .i64 ((k + 1 : Nat) : Int) by rw [Int.natCast_add]; rfl)) (ltn rfl) ?_
                    refine wl_val (r_move rfl) (ltn rfl) ?_
                    refine wl_val (r_len Try.underlying22 rfl) (ltn rfl) ?_
                    refine wl_val (r_lss rfl rfl) (ltn rfl) ?_
                    refine wl_nil ?_
                    refine wq_seq ?_
                    refine wc_cond rfl (fun h18 => ?_) (fun h18 => ?_)
                    · (try simp only [beq_iff_eq, bne_iff_ne, ne_eq, decide_eq_true_eq, decide_eq_false_iff_not, beq_eq_false_iff_ne, bne_eq_false_iff_eq, Bool.not_eq_true', Bool.not_eq_false', Bool.not_eq_eq_eq_not, Bool.not_true, Bool.not_false, gt_iff_lt, ge_iff_le, Int.not_lt, Int.not_le] at h18)
                      
                      refine wc_seq ?_
                      refine wc_region ?_
                      refine wl_val (r_move rfl) (ltn rfl) ?_
                      refine wl_val (r_as (r_add rfl rfl (by omega)) (show Value.int .i64 ((k : Int) + 1) = .int .i64 ((k + 1 : Nat) : Int) by rw [Int.natCast_add]; rfl)) (ltn rfl) ?_
                      refine wl_val (r_assign rfl) (ltn rfl) ?_
                      refine wl_nil ?_
                      refine wq_seq ?_
                      refine wc_region ?_
                      refine wl_val (r_move rfl) (ltn rfl) ?_
                      refine wl_val (r_move rfl) (ltn rfl) ?_
                      refine wl_val (r_move rfl) (ltn rfl) ?_
                      refine wl_val (r_index Try.underlying22 Try.sizeOf21 rfl rfl (by omega)) (ltn rfl) ?_
                      refine wl_val (r_load (plain_of Try.underlying21 rfl) rfl (by first | exact RdI.at1n (hv _ (HL.right)) (by omega) | exact RdI.at0 (hv _ (HL.right)) (by omega) | exact RdI.at1 (hv _ (HL.right)) (by omega))) (ltn rfl) ?_
                      refine wl_eff (e_lit_ints (k := .i32) (l := [_]) HL Try.underlying22 Try.sizeOf21 Try.zeroValue21 rfl rfl rfl (by decide)) (ltn rfl) ?_
                      rintro l21 w21 H21
                      refine wl_eff (e_append_ints H21.f2 ((H21).row_rd) Try.underlying22 (show (Try.prog.info? 21).map (fun i => (i.zero, i.size, i.bytes)) = some (some (.int .i32 0), 1, 4) by kernel_rfl) rfl rfl (by first | omega | (simp only [List.length_append, List.length_nil, List.length_cons]; omega) | (simp; omega)) (by first | omega | (simp only [List.length_append, List.length_nil, List.length_cons]; omega) | (simp; omega))) (ltn rfl) ?_
                      rintro l22 w22 H22
                      try simp only [List.nil_append] at H22
                      refine wl_val (r_assign rfl) (ltn rfl) ?_
                      refine wl_nil ?_
                      refine wq_block_normal ?_
                      refine wq_block_normal ?_
                      refine wq_seq ?_
                      refine wc_region ?_
                      refine wl_val (r_move rfl) (ltn rfl) ?_
                      refine wl_val (r_as (r_add rfl rfl (by omega)) ((by first | exact (show Value.int .i64 ((k : Int) + 1) = .int .i64 ((k + 1 : Nat) : Int) from by rw [Int.natCast_add]; rfl) | exact (show Value.int .i64 (((k + 1 : Nat) : Int) + 1) = .int .i64 ((k + 1 + 1 : Nat) : Int) from by rw [Int.natCast_add (k + 1)]; rfl)))) (ltn rfl) ?_
                      refine wl_val (r_assign rfl) (ltn rfl) ?_
                      refine wl_nil ?_
                      refine wq_round (_, _, _) (Sub.cons rfl (Sub.cons rfl (Sub.cons rfl (Sub.nil _)))) (Sub.cons rfl (Sub.nil _)) (by (try dsimp only); exact by first | exact ⟨_, sr_end hsr hkl (by assumption) (by assumption), H22.f2.right⟩ | exact ⟨_, sr_open hsr hkl (by assumption) (by omega), H22.f2.right⟩ | exact ⟨_, sr_back1 hsr (by omega) (by assumption) (by assumption) hs0 hgo, H22.f2.right⟩ | exact ⟨_, sr_back0 hsr (by omega) (by assumption) (by assumption) (by first | exact hgo | exact .inl (by omega) | (rw [show sv = 34 by omega, goes34 (by omega)]; exact .inr (decide_eq_true (in4.1 (by assumption))))), H22.f2.right⟩ | exact ⟨_, sr_last hsr hkl (by omega) (by assumption) (by assumption), H22.f2.right⟩ | exact ⟨_, sr_stay hsr hkl (by omega) (by omega) (by omega), H22.f2.right⟩ | (exfalso; omega)) ?_
                      · (try dsimp only); omega
                    · (try simp only [beq_iff_eq, bne_iff_ne, ne_eq, decide_eq_true_eq, decide_eq_false_iff_not, beq_eq_false_iff_ne, bne_eq_false_iff_eq, Bool.not_eq_true', Bool.not_eq_false', Bool.not_eq_eq_eq_not, Bool.not_true, Bool.not_false, gt_iff_lt, ge_iff_le, Int.not_lt, Int.not_le] at h18)
                      
                      refine wc_skip ?_
                      refine wq_block_normal ?_
                      refine wq_block_normal ?_
                      refine wq_seq ?_
                      refine wc_region ?_
                      refine wl_val (r_move rfl) (ltn rfl) ?_
                      refine wl_val (r_as (r_add rfl rfl (by omega)) ((by first | exact (show Value.int .i64 ((k : Int) + 1) = .int .i64 ((k + 1 : Nat) : Int) from by rw [Int.natCast_add]; rfl) | exact (show Value.int .i64 (((k + 1 : Nat) : Int) + 1) = .int .i64 ((k + 1 + 1 : Nat) : Int) from by rw [Int.natCast_add (k + 1)]; rfl)))) (ltn rfl) ?_
                      refine wl_val (r_assign rfl) (ltn rfl) ?_
                      refine wl_nil ?_
                      refine wq_round (_, _, _) (Sub.cons rfl (Sub.cons rfl (Sub.cons rfl (Sub.nil _)))) (Sub.cons rfl (Sub.nil _)) (by (try dsimp only); exact by first | exact ⟨_, sr_end hsr hkl (by assumption) (by assumption), HL⟩ | exact ⟨_, sr_open hsr hkl (by assumption) (by omega), HL⟩ | exact ⟨_, sr_back1 hsr (by omega) (by assumption) (by assumption) hs0 hgo, HL⟩ | exact ⟨_, sr_back0 hsr (by omega) (by assumption) (by assumption) (by first | exact hgo | exact .inl (by omega) | (rw [show sv = 34 by omega, goes34 (by omega)]; exact .inr (decide_eq_true (in4.1 (by assumption))))), HL⟩ | exact ⟨_, sr_last hsr hkl (by omega) (by assumption) (by assumption), HL⟩ | exact ⟨_, sr_stay hsr hkl (by omega) (by omega) (by omega), HL⟩ | (exfalso; omega)) ?_
                      · (try dsimp only); omega
                · (try simp only [beq_iff_eq, bne_iff_ne, ne_eq, decide_eq_true_eq, decide_eq_false_iff_not, beq_eq_false_iff_ne, bne_eq_false_iff_eq, Bool.not_eq_true', Bool.not_eq_false', Bool.not_eq_eq_eq_not, Bool.not_true, Bool.not_false, gt_iff_lt, ge_iff_le, Int.not_lt, Int.not_le] at h15)
                  refine wl_no rfl rfl rfl (ltn rfl) ?_
                  refine wl_no rfl rfl rfl (ltn rfl) ?_
                  refine wl_no rfl rfl rfl (ltn rfl) ?_
                  refine wl_no rfl rfl rfl (ltn rfl) ?_
                  refine wl_no rfl rfl rfl (ltn rfl) ?_
                  refine wl_no rfl rfl rfl (ltn rfl) ?_
                  refine wl_no rfl rfl rfl (ltn rfl) ?_
                  refine wl_yes rfl rfl ?_
                  refine wl_val (r_pick_f rfl rfl) (ltn rfl) ?_
                  refine wl_yes rfl rfl ?_
                  refine wl_val (r_pick_f rfl rfl) (ltn rfl) ?_
                  refine wl_val (r_pick_t rfl rfl) (ltn rfl) ?_
                  refine wl_val (r_assign rfl) (ltn rfl) ?_
                  refine wl_nil ?_
                  refine wq_seq ?_
                  refine wc_seq ?_
                  refine wc_seq ?_
                  refine wc_region ?_
                  refine wl_val (r_move rfl) (ltn rfl) ?_
                  refine wl_nil ?_
                  refine wq_seq ?_
                  refine wc_cond_f rfl ?_
                  refine wc_skip ?_
                  refine wq_seq ?_
                  refine wc_seq ?_
                  refine wc_region ?_
                  refine wl_val (r_move rfl) (ltn rfl) ?_
                  refine wl_val (r_as (r_add rfl rfl (by omega)) (show Value.int .i64 ((k : Int) + 1) = .int .i64 ((k + 1 : Nat) : Int) by rw [Int.natCast_add]; rfl)) (ltn rfl) ?_
                  refine wl_val (r_move rfl) (ltn rfl) ?_
                  refine wl_val (r_len Try.underlying22 rfl) (ltn rfl) ?_
                  refine wl_val (r_lss rfl rfl) (ltn rfl) ?_
                  refine wl_nil ?_
                  refine wq_seq ?_
                  refine wc_cond rfl (fun h19 => ?_) (fun h19 => ?_)
                  · (try simp only [beq_iff_eq, bne_iff_ne, ne_eq, decide_eq_true_eq, decide_eq_false_iff_not, beq_eq_false_iff_ne, bne_eq_false_iff_eq, Bool.not_eq_true', Bool.not_eq_false', Bool.not_eq_eq_eq_not, Bool.not_true, Bool.not_false, gt_iff_lt, ge_iff_le, Int.not_lt, Int.not_le] at h19)
                    
                    refine wc_seq ?_
                    refine wc_region ?_
                    refine wl_val (r_move rfl) (ltn rfl) ?_
                    refine wl_val (r_as (r_add rfl rfl (by omega)) (show Value.int .i64 ((k : Int) + 1) = .int .i64 ((k + 1 : Nat) : Int) by rw [Int.natCast_add]; rfl)) (ltn rfl) ?_
                    refine wl_val (r_assign rfl) (ltn rfl) ?_
                    refine wl_nil ?_
                    refine wq_seq ?_
                    refine wc_region ?_
                    refine wl_val (r_move rfl) (ltn rfl) ?_
                    refine wl_val (r_move rfl) (ltn rfl) ?_
                    refine wl_val (r_move rfl) (ltn rfl) ?_
                    refine wl_val (r_index Try.underlying22 Try.sizeOf21 rfl rfl (by omega)) (ltn rfl) ?_
                    refine wl_val (r_load (plain_of Try.underlying21 rfl) rfl (by first | exact RdI.at1n (hv _ (HL.right)) (by omega) | exact RdI.at0 (hv _ (HL.right)) (by omega) | exact RdI.at1 (hv _ (HL.right)) (by omega))) (ltn rfl) ?_
                    refine wl_eff (e_lit_ints (k := .i32) (l := [_]) HL Try.underlying22 Try.sizeOf21 Try.zeroValue21 rfl rfl rfl (by decide)) (ltn rfl) ?_
                    rintro l23 w23 H23
                    refine wl_eff (e_append_ints H23.f2 ((H23).row_rd) Try.underlying22 (show (Try.prog.info? 21).map (fun i => (i.zero, i.size, i.bytes)) = some (some (.int .i32 0), 1, 4) by kernel_rfl) rfl rfl (by first | omega | (simp only [List.length_append, List.length_nil, List.length_cons]; omega) | (simp; omega)) (by first | omega | (simp only [List.length_append, List.length_nil, List.length_cons]; omega) | (simp; omega))) (ltn rfl) ?_
                    rintro l24 w24 H24
                    try simp only [List.nil_append] at H24
                    refine wl_val (r_assign rfl) (ltn rfl) ?_
                    refine wl_nil ?_
                    refine wq_block_normal ?_
                    refine wq_block_normal ?_
                    refine wq_seq ?_
                    refine wc_region ?_
                    refine wl_val (r_move rfl) (ltn rfl) ?_
                    refine wl_val (r_as (r_add rfl rfl (by omega)) ((by first | exact (show Value.int .i64 ((k : Int) + 1) = .int .i64 ((k + 1 : Nat) : Int) from by rw [Int.natCast_add]; rfl) | exact (show Value.int .i64 (((k + 1 : Nat) : Int) + 1) = .int .i64 ((k + 1 + 1 : Nat) : Int) from by rw [Int.natCast_add (k + 1)]; rfl)))) (ltn rfl) ?_
                    refine wl_val (r_assign rfl) (ltn rfl) ?_
                    refine wl_nil ?_
                    refine wq_round (_, _, _) (Sub.cons rfl (Sub.cons rfl (Sub.cons rfl (Sub.nil _)))) (Sub.cons rfl (Sub.nil _)) (by (try dsimp only); exact by first | exact ⟨_, sr_end hsr hkl (by assumption) (by assumption), H24.f2.right⟩ | exact ⟨_, sr_open hsr hkl (by assumption) (by omega), H24.f2.right⟩ | exact ⟨_, sr_back1 hsr (by omega) (by assumption) (by assumption) hs0 hgo, H24.f2.right⟩ | exact ⟨_, sr_back0 hsr (by omega) (by assumption) (by assumption) (by first | exact hgo | exact .inl (by omega) | (rw [show sv = 34 by omega, goes34 (by omega)]; exact .inr (decide_eq_true (in4.1 (by assumption))))), H24.f2.right⟩ | exact ⟨_, sr_last hsr hkl (by omega) (by assumption) (by assumption), H24.f2.right⟩ | exact ⟨_, sr_stay hsr hkl (by omega) (by omega) (by omega), H24.f2.right⟩ | (exfalso; omega)) ?_
                    · (try dsimp only); omega
                  · (try simp only [beq_iff_eq, bne_iff_ne, ne_eq, decide_eq_true_eq, decide_eq_false_iff_not, beq_eq_false_iff_ne, bne_eq_false_iff_eq, Bool.not_eq_true', Bool.not_eq_false', Bool.not_eq_eq_eq_not, Bool.not_true, Bool.not_false, gt_iff_lt, ge_iff_le, Int.not_lt, Int.not_le] at h19)
                    
                    refine wc_skip ?_
                    refine wq_block_normal ?_
                    refine wq_block_normal ?_
                    refine wq_seq ?_
                    refine wc_region ?_
                    refine wl_val (r_move rfl) (ltn rfl) ?_
                    refine wl_val (r_as (r_add rfl rfl (by omega)) ((by first | exact (show Value.int .i64 ((k : Int) + 1) = .int .i64 ((k + 1 : Nat) : Int) from by rw [Int.natCast_add]; rfl) | exact (show Value.int .i64 (((k + 1 : Nat) : Int) + 1) = .int .i64 ((k + 1 + 1 : Nat) : Int) from by rw [Int.natCast_add (k + 1)]; rfl)))) (ltn rfl) ?_
                    refine wl_val (r_assign rfl) (ltn rfl) ?_
                    refine wl_nil ?_
                    refine wq_round (_, _, _) (Sub.cons rfl (Sub.cons rfl (Sub.cons rfl (Sub.nil _)))) (Sub.cons rfl (Sub.nil _)) (by (try dsimp only); exact by first | exact ⟨_, sr_end hsr hkl (by assumption) (by assumption), HL⟩ | exact ⟨_, sr_open hsr hkl (by assumption) (by omega), HL⟩ | exact ⟨_, sr_back1 hsr (by omega) (by assumption) (by assumption) hs0 hgo, HL⟩ | exact ⟨_, sr_back0 hsr (by omega) (by assumption) (by assumption) (by first | exact hgo | exact .inl (by omega) | (rw [show sv = 34 by omega, goes34 (by omega)]; exact .inr (decide_eq_true (in4.1 (by assumption))))), HL⟩ | exact ⟨_, sr_last hsr hkl (by omega) (by assumption) (by assumption), HL⟩ | exact ⟨_, sr_stay hsr hkl (by omega) (by omega) (by omega), HL⟩ | (exfalso; omega)) ?_
                    · (try dsimp only); omega
            · (try simp only [beq_iff_eq, bne_iff_ne, ne_eq, decide_eq_true_eq, decide_eq_false_iff_not, beq_eq_false_iff_ne, bne_eq_false_iff_eq, Bool.not_eq_true', Bool.not_eq_false', Bool.not_eq_eq_eq_not, Bool.not_true, Bool.not_false, gt_iff_lt, ge_iff_le, Int.not_lt, Int.not_le] at h6)
              refine wl_no rfl rfl rfl (ltn rfl) ?_
              refine wl_no rfl rfl rfl (ltn rfl) ?_
              refine wl_no rfl rfl rfl (ltn rfl) ?_
              refine wl_nou rfl rfl (ltn rfl) ?_
              refine wl_nou rfl rfl (ltn rfl) ?_
              refine wl_nou rfl rfl (ltn rfl) ?_
              refine wl_nou rfl rfl (ltn rfl) ?_
              refine wl_nou rfl rfl (ltn rfl) ?_
              refine wl_nou rfl rfl (ltn rfl) ?_
              refine wl_nou rfl rfl (ltn rfl) ?_
              refine wl_no rfl rfl rfl (ltn rfl) ?_
              refine wl_no rfl rfl rfl (ltn rfl) ?_
              refine wl_nou rfl rfl (ltn rfl) ?_
              refine wl_nou rfl rfl (ltn rfl) ?_
              refine wl_nou rfl rfl (ltn rfl) ?_
              refine wl_nou rfl rfl (ltn rfl) ?_
              refine wl_nou rfl rfl (ltn rfl) ?_
              refine wl_nou rfl rfl (ltn rfl) ?_
              refine wl_nou rfl rfl (ltn rfl) ?_
              refine wl_nou rfl rfl (ltn rfl) ?_
              refine wl_nou rfl rfl (ltn rfl) ?_
              refine wl_nou rfl rfl (ltn rfl) ?_
              refine wl_nou rfl rfl (ltn rfl) ?_
              refine wl_no rfl rfl rfl (ltn rfl) ?_
              refine wl_val (r_pick_f rfl rfl) (ltn rfl) ?_
              refine wl_val (r_assign rfl) (ltn rfl) ?_
              refine wl_nil ?_
              refine wq_seq ?_
              refine wc_seq ?_
              refine wc_seq ?_
              refine wc_region ?_
              refine wl_val (r_move rfl) (ltn rfl) ?_
              refine wl_nil ?_
              refine wq_seq ?_
              refine wc_cond_f rfl ?_
              refine wc_skip ?_
              refine wq_seq ?_
              refine wc_seq ?_
              refine wc_region ?_
              refine wl_val (r_move rfl) (ltn rfl) ?_
              refine wl_val (r_as (r_add rfl rfl (by omega)) (show Value.int .i64 ((k : Int) + 1) = .int .i64 ((k + 1 : Nat) : Int) by rw [Int.natCast_add]; rfl)) (ltn rfl) ?_
              refine wl_val (r_move rfl) (ltn rfl) ?_
              refine wl_val (r_len Try.underlying22 rfl) (ltn rfl) ?_
              refine wl_val (r_lss rfl rfl) (ltn rfl) ?_
              refine wl_nil ?_
              refine wq_seq ?_
              refine wc_cond rfl (fun h20 => ?_) (fun h20 => ?_)
              · (try simp only [beq_iff_eq, bne_iff_ne, ne_eq, decide_eq_true_eq, decide_eq_false_iff_not, beq_eq_false_iff_ne, bne_eq_false_iff_eq, Bool.not_eq_true', Bool.not_eq_false', Bool.not_eq_eq_eq_not, Bool.not_true, Bool.not_false, gt_iff_lt, ge_iff_le, Int.not_lt, Int.not_le] at h20)
                
                refine wc_seq ?_
                refine wc_region ?_
                refine wl_val (r_move rfl) (ltn rfl) ?_
                refine wl_val (r_as (r_add rfl rfl (by omega)) (show Value.int .i64 ((k : Int) + 1) = .int .i64 ((k + 1 : Nat) : Int) by rw [Int.natCast_add]; rfl)) (ltn rfl) ?_
                refine wl_val (r_assign rfl) (ltn rfl) ?_
                refine wl_nil ?_
                refine wq_seq ?_
                refine wc_region ?_
                refine wl_val (r_move rfl) (ltn rfl) ?_
                refine wl_val (r_move rfl) (ltn rfl) ?_
                refine wl_val (r_move rfl) (ltn rfl) ?_
                refine wl_val (r_index Try.underlying22 Try.sizeOf21 rfl rfl (by omega)) (ltn rfl) ?_
                refine wl_val (r_load (plain_of Try.underlying21 rfl) rfl (by first | exact RdI.at1n (hv _ (HL.right)) (by omega) | exact RdI.at0 (hv _ (HL.right)) (by omega) | exact RdI.at1 (hv _ (HL.right)) (by omega))) (ltn rfl) ?_
                refine wl_eff (e_lit_ints (k := .i32) (l := [_]) HL Try.underlying22 Try.sizeOf21 Try.zeroValue21 rfl rfl rfl (by decide)) (ltn rfl) ?_
                rintro l25 w25 H25
                refine wl_eff (e_append_ints H25.f2 ((H25).row_rd) Try.underlying22 (show (Try.prog.info? 21).map (fun i => (i.zero, i.size, i.bytes)) = some (some (.int .i32 0), 1, 4) by kernel_rfl) rfl rfl (by first | omega | (simp only [List.length_append, List.length_nil, List.length_cons]; omega) | (simp; omega)) (by first | omega | (simp only [List.length_append, List.length_nil, List.length_cons]; omega) | (simp; omega))) (ltn rfl) ?_
                rintro l26 w26 H26
                try simp only [List.nil_append] at H26
                refine wl_val (r_assign rfl) (ltn rfl) ?_
                refine wl_nil ?_
                refine wq_block_normal ?_
                refine wq_block_normal ?_
                refine wq_seq ?_
                refine wc_region ?_
                refine wl_val (r_move rfl) (ltn rfl) ?_
                refine wl_val (r_as (r_add rfl rfl (by omega)) ((by first | exact (show Value.int .i64 ((k : Int) + 1) = .int .i64 ((k + 1 : Nat) : Int) from by rw [Int.natCast_add]; rfl) | exact (show Value.int .i64 (((k + 1 : Nat) : Int) + 1) = .int .i64 ((k + 1 + 1 : Nat) : Int) from by rw [Int.natCast_add (k + 1)]; rfl)))) (ltn rfl) ?_
                refine wl_val (r_assign rfl) (ltn rfl) ?_
                refine wl_nil ?_
                refine wq_round (_, _, _) (Sub.cons rfl (Sub.cons rfl (Sub.cons rfl (Sub.nil _)))) (Sub.cons rfl (Sub.nil _)) (by (try dsimp only); exact by first | exact ⟨_, sr_end hsr hkl (by assumption) (by assumption), H26.f2.right⟩ | exact ⟨_, sr_open hsr hkl (by assumption) (by omega), H26.f2.right⟩ | exact ⟨_, sr_back1 hsr (by omega) (by assumption) (by assumption) hs0 hgo, H26.f2.right⟩ | exact ⟨_, sr_back0 hsr (by omega) (by assumption) (by assumption) (by first | exact hgo | exact .inl (by omega) | (rw [show sv = 34 by omega, goes34 (by omega)]; exact .inr (decide_eq_true (in4.1 (by assumption))))), H26.f2.right⟩ | exact ⟨_, sr_last hsr hkl (by omega) (by assumption) (by assumption), H26.f2.right⟩ | exact ⟨_, sr_stay hsr hkl (by omega) (by omega) (by omega), H26.f2.right⟩ | (exfalso; omega)) ?_
                · (try dsimp only); omega
              · (try simp only [beq_iff_eq, bne_iff_ne, ne_eq, decide_eq_true_eq, decide_eq_false_iff_not, beq_eq_false_iff_ne, bne_eq_false_iff_eq, Bool.not_eq_true', Bool.not_eq_false', Bool.not_eq_eq_eq_not, Bool.not_true, Bool.not_false, gt_iff_lt, ge_iff_le, Int.not_lt, Int.not_le] at h20)
                
                refine wc_skip ?_
                refine wq_block_normal ?_
                refine wq_block_normal ?_
                refine wq_seq ?_
                refine wc_region ?_
                refine wl_val (r_move rfl) (ltn rfl) ?_
                refine wl_val (r_as (r_add rfl rfl (by omega)) ((by first | exact (show Value.int .i64 ((k : Int) + 1) = .int .i64 ((k + 1 : Nat) : Int) from by rw [Int.natCast_add]; rfl) | exact (show Value.int .i64 (((k + 1 : Nat) : Int) + 1) = .int .i64 ((k + 1 + 1 : Nat) : Int) from by rw [Int.natCast_add (k + 1)]; rfl)))) (ltn rfl) ?_
                refine wl_val (r_assign rfl) (ltn rfl) ?_
                refine wl_nil ?_
                refine wq_round (_, _, _) (Sub.cons rfl (Sub.cons rfl (Sub.cons rfl (Sub.nil _)))) (Sub.cons rfl (Sub.nil _)) (by (try dsimp only); exact by first | exact ⟨_, sr_end hsr hkl (by assumption) (by assumption), HL⟩ | exact ⟨_, sr_open hsr hkl (by assumption) (by omega), HL⟩ | exact ⟨_, sr_back1 hsr (by omega) (by assumption) (by assumption) hs0 hgo, HL⟩ | exact ⟨_, sr_back0 hsr (by omega) (by assumption) (by assumption) (by first | exact hgo | exact .inl (by omega) | (rw [show sv = 34 by omega, goes34 (by omega)]; exact .inr (decide_eq_true (in4.1 (by assumption))))), HL⟩ | exact ⟨_, sr_last hsr hkl (by omega) (by assumption) (by assumption), HL⟩ | exact ⟨_, sr_stay hsr hkl (by omega) (by omega) (by omega), HL⟩ | (exfalso; omega)) ?_
                · (try dsimp only); omega
          · (try simp only [beq_iff_eq, bne_iff_ne, ne_eq, decide_eq_true_eq, decide_eq_false_iff_not, beq_eq_false_iff_ne, bne_eq_false_iff_eq, Bool.not_eq_true', Bool.not_eq_false', Bool.not_eq_eq_eq_not, Bool.not_true, Bool.not_false, gt_iff_lt, ge_iff_le, Int.not_lt, Int.not_le] at h5)
            
            refine wc_seq ?_
            refine wc_region ?_
            refine wl_val (r_move rfl) (ltn rfl) ?_
            refine wl_val (r_eql rfl rfl) (ltn rfl) ?_
            refine wl_split rfl (ltn rfl) (fun h21 => ?_) (fun h21 => ?_)
            · (try simp only [beq_iff_eq, bne_iff_ne, ne_eq, decide_eq_true_eq, decide_eq_false_iff_not, beq_eq_false_iff_ne, bne_eq_false_iff_eq, Bool.not_eq_true', Bool.not_eq_false', Bool.not_eq_eq_eq_not, Bool.not_true, Bool.not_false, gt_iff_lt, ge_iff_le, Int.not_lt, Int.not_le] at h21)
              refine wl_yes rfl rfl ?_
              refine wl_val (r_move rfl) (ltn rfl) ?_
              refine wl_yes rfl rfl ?_
              refine wl_val (r_eql rfl rfl) (ltn rfl) ?_
              refine wl_yes rfl rfl ?_
              refine wl_split rfl (ltn rfl) (fun h22 => ?_) (fun h22 => ?_)
              · (try simp only [beq_iff_eq, bne_iff_ne, ne_eq, decide_eq_true_eq, decide_eq_false_iff_not, beq_eq_false_iff_ne, bne_eq_false_iff_eq, Bool.not_eq_true', Bool.not_eq_false', Bool.not_eq_eq_eq_not, Bool.not_true, Bool.not_false, gt_iff_lt, ge_iff_le, Int.not_lt, Int.not_le] at h22)
                refine wl_no rfl rfl rfl (ltn rfl) ?_
                refine wl_no rfl rfl rfl (ltn rfl) ?_
                refine wl_yes rfl rfl ?_
                refine wl_val (r_pick_t rfl rfl) (ltn rfl) ?_
                refine wl_yes rfl rfl ?_
                refine wl_val (r_move rfl) (ltn rfl) ?_
                refine wl_no rfl rfl rfl (ltn rfl) ?_
                refine wl_no rfl rfl rfl (ltn rfl) ?_
                refine wl_yes rfl rfl ?_
                refine wl_val (r_pick_t rfl rfl) (ltn rfl) ?_
                refine wl_val (r_pick_t rfl rfl) (ltn rfl) ?_
                refine wl_val (r_assign rfl) (ltn rfl) ?_
                refine wl_nil ?_
                refine wq_seq ?_
                refine wc_cond_t rfl ?_
                refine wc_region ?_
                refine wl_val (r_move rfl) (ltn rfl) ?_
                refine wl_val (r_assign rfl) (ltn rfl) ?_
                refine wl_nil ?_
                refine wq_block_normal ?_
                refine wq_block_normal ?_
                refine wq_seq ?_
                refine wc_region ?_
                refine wl_val (r_move rfl) (ltn rfl) ?_
                refine wl_val (r_as (r_add rfl rfl (by omega)) ((by first | exact (show Value.int .i64 ((k : Int) + 1) = .int .i64 ((k + 1 : Nat) : Int) from by rw [Int.natCast_add]; rfl) | exact (show Value.int .i64 (((k + 1 : Nat) : Int) + 1) = .int .i64 ((k + 1 + 1 : Nat) : Int) from by rw [Int.natCast_add (k + 1)]; rfl)))) (ltn rfl) ?_
                refine wl_val (r_assign rfl) (ltn rfl) ?_
                refine wl_nil ?_
                refine wq_round (_, _, _) (Sub.cons rfl (Sub.cons rfl (Sub.cons rfl (Sub.nil _)))) (Sub.cons rfl (Sub.nil _)) (by (try dsimp only); exact by first | exact ⟨_, sr_end hsr hkl (by assumption) (by assumption), HL⟩ | exact ⟨_, sr_open hsr hkl (by assumption) (by omega), HL⟩ | exact ⟨_, sr_back1 hsr (by omega) (by assumption) (by assumption) hs0 hgo, HL⟩ | exact ⟨_, sr_back0 hsr (by omega) (by assumption) (by assumption) (by first | exact hgo | exact .inl (by omega) | (rw [show sv = 34 by omega, goes34 (by omega)]; exact .inr (decide_eq_true (in4.1 (by assumption))))), HL⟩ | exact ⟨_, sr_last hsr hkl (by omega) (by assumption) (by assumption), HL⟩ | exact ⟨_, sr_stay hsr hkl (by omega) (by omega) (by omega), HL⟩ | (exfalso; omega)) ?_
                · (try dsimp only); omega
              · (try simp only [beq_iff_eq, bne_iff_ne, ne_eq, decide_eq_true_eq, decide_eq_false_iff_not, beq_eq_false_iff_ne, bne_eq_false_iff_eq, Bool.not_eq_true', Bool.not_eq_false', Bool.not_eq_eq_eq_not, Bool.not_true, Bool.not_false, gt_iff_lt, ge_iff_le, Int.not_lt, Int.not_le] at h22)
                refine wl_yes rfl rfl ?_
                refine wl_val (r_move rfl) (ltn rfl) ?_
                refine wl_yes rfl rfl ?_
                refine wl_val (r_eql rfl rfl) (ltn rfl) ?_
                refine wl_yes rfl rfl ?_
                refine wl_val (r_pick_f rfl rfl) (ltn rfl) ?_
                refine wl_yes rfl rfl ?_
                refine wl_split rfl (ltn rfl) (fun h23 => ?_) (fun h23 => ?_)
                · (try simp only [beq_iff_eq, bne_iff_ne, ne_eq, decide_eq_true_eq, decide_eq_false_iff_not, beq_eq_false_iff_ne, bne_eq_false_iff_eq, Bool.not_eq_true', Bool.not_eq_false', Bool.not_eq_eq_eq_not, Bool.not_true, Bool.not_false, gt_iff_lt, ge_iff_le, Int.not_lt, Int.not_le] at h23)
                  refine wl_no rfl rfl rfl (ltn rfl) ?_
                  refine wl_no rfl rfl rfl (ltn rfl) ?_
                  refine wl_yes rfl rfl ?_
                  refine wl_val (r_pick_t rfl rfl) (ltn rfl) ?_
                  refine wl_val (r_pick_t rfl rfl) (ltn rfl) ?_
                  refine wl_val (r_assign rfl) (ltn rfl) ?_
                  refine wl_nil ?_
                  refine wq_seq ?_
                  refine wc_cond_t rfl ?_
                  refine wc_region ?_
                  refine wl_val (r_move rfl) (ltn rfl) ?_
                  refine wl_val (r_assign rfl) (ltn rfl) ?_
                  refine wl_nil ?_
                  refine wq_block_normal ?_
                  refine wq_block_normal ?_
                  refine wq_seq ?_
                  refine wc_region ?_
                  refine wl_val (r_move rfl) (ltn rfl) ?_
                  refine wl_val (r_as (r_add rfl rfl (by omega)) ((by first | exact (show Value.int .i64 ((k : Int) + 1) = .int .i64 ((k + 1 : Nat) : Int) from by rw [Int.natCast_add]; rfl) | exact (show Value.int .i64 (((k + 1 : Nat) : Int) + 1) = .int .i64 ((k + 1 + 1 : Nat) : Int) from by rw [Int.natCast_add (k + 1)]; rfl)))) (ltn rfl) ?_
                  refine wl_val (r_assign rfl) (ltn rfl) ?_
                  refine wl_nil ?_
                  refine wq_round (_, _, _) (Sub.cons rfl (Sub.cons rfl (Sub.cons rfl (Sub.nil _)))) (Sub.cons rfl (Sub.nil _)) (by (try dsimp only); exact by first | exact ⟨_, sr_end hsr hkl (by assumption) (by assumption), HL⟩ | exact ⟨_, sr_open hsr hkl (by assumption) (by omega), HL⟩ | exact ⟨_, sr_back1 hsr (by omega) (by assumption) (by assumption) hs0 hgo, HL⟩ | exact ⟨_, sr_back0 hsr (by omega) (by assumption) (by assumption) (by first | exact hgo | exact .inl (by omega) | (rw [show sv = 34 by omega, goes34 (by omega)]; exact .inr (decide_eq_true (in4.1 (by assumption))))), HL⟩ | exact ⟨_, sr_last hsr hkl (by omega) (by assumption) (by assumption), HL⟩ | exact ⟨_, sr_stay hsr hkl (by omega) (by omega) (by omega), HL⟩ | (exfalso; omega)) ?_
                  · (try dsimp only); omega
                · (try simp only [beq_iff_eq, bne_iff_ne, ne_eq, decide_eq_true_eq, decide_eq_false_iff_not, beq_eq_false_iff_ne, bne_eq_false_iff_eq, Bool.not_eq_true', Bool.not_eq_false', Bool.not_eq_eq_eq_not, Bool.not_true, Bool.not_false, gt_iff_lt, ge_iff_le, Int.not_lt, Int.not_le] at h23)
                  refine wl_yes rfl rfl ?_
                  refine wl_val (r_move rfl) (ltn rfl) ?_
                  refine wl_yes rfl rfl ?_
                  refine wl_val (r_eql rfl rfl) (ltn rfl) ?_
                  refine wl_yes rfl rfl ?_
                  refine wl_val (r_pick_f rfl rfl) (ltn rfl) ?_
                  refine wl_val (r_pick_t rfl rfl) (ltn rfl) ?_
                  refine wl_val (r_assign rfl) (ltn rfl) ?_
                  refine wl_nil ?_
                  refine wq_seq ?_
                  refine wc_cond rfl (fun h24 => ?_) (fun h24 => ?_)
                  · (try simp only [beq_iff_eq, bne_iff_ne, ne_eq, decide_eq_true_eq, decide_eq_false_iff_not, beq_eq_false_iff_ne, bne_eq_false_iff_eq, Bool.not_eq_true', Bool.not_eq_false', Bool.not_eq_eq_eq_not, Bool.not_true, Bool.not_false, gt_iff_lt, ge_iff_le, Int.not_lt, Int.not_le] at h24)
                    
                    refine wc_region ?_
                    refine wl_val (r_move rfl) (ltn rfl) ?_
                    refine wl_val (r_assign rfl) (ltn rfl) ?_
                    refine wl_nil ?_
                    refine wq_block_normal ?_
                    refine wq_block_normal ?_
                    refine wq_seq ?_
                    refine wc_region ?_
                    refine wl_val (r_move rfl) (ltn rfl) ?_
                    refine wl_val (r_as (r_add rfl rfl (by omega)) ((by first | exact (show Value.int .i64 ((k : Int) + 1) = .int .i64 ((k + 1 : Nat) : Int) from by rw [Int.natCast_add]; rfl) | exact (show Value.int .i64 (((k + 1 : Nat) : Int) + 1) = .int .i64 ((k + 1 + 1 : Nat) : Int) from by rw [Int.natCast_add (k + 1)]; rfl)))) (ltn rfl) ?_
                    refine wl_val (r_assign rfl) (ltn rfl) ?_
                    refine wl_nil ?_
                    refine wq_round (_, _, _) (Sub.cons rfl (Sub.cons rfl (Sub.cons rfl (Sub.nil _)))) (Sub.cons rfl (Sub.nil _)) (by (try dsimp only); exact by first | exact ⟨_, sr_end hsr hkl (by assumption) (by assumption), HL⟩ | exact ⟨_, sr_open hsr hkl (by assumption) (by omega), HL⟩ | exact ⟨_, sr_back1 hsr (by omega) (by assumption) (by assumption) hs0 hgo, HL⟩ | exact ⟨_, sr_back0 hsr (by omega) (by assumption) (by assumption) (by first | exact hgo | exact .inl (by omega) | (rw [show sv = 34 by omega, goes34 (by omega)]; exact .inr (decide_eq_true (in4.1 (by assumption))))), HL⟩ | exact ⟨_, sr_last hsr hkl (by omega) (by assumption) (by assumption), HL⟩ | exact ⟨_, sr_stay hsr hkl (by omega) (by omega) (by omega), HL⟩ | (exfalso; omega)) ?_
                    · (try dsimp only); omega
                  · (try simp only [beq_iff_eq, bne_iff_ne, ne_eq, decide_eq_true_eq, decide_eq_false_iff_not, beq_eq_false_iff_ne, bne_eq_false_iff_eq, Bool.not_eq_true', Bool.not_eq_false', Bool.not_eq_eq_eq_not, Bool.not_true, Bool.not_false, gt_iff_lt, ge_iff_le, Int.not_lt, Int.not_le] at h24)
                    
                    refine wc_region ?_
                    refine wl_val (r_move rfl) (ltn rfl) ?_
                    refine wl_val (r_move rfl) (ltn rfl) ?_
                    refine wl_eff (e_lit_ints (k := .i32) (l := [_]) HL Try.underlying22 Try.sizeOf21 Try.zeroValue21 rfl rfl rfl (by decide)) (ltn rfl) ?_
                    rintro l27 w27 H27
                    refine wl_eff (e_append_ints H27.f2 ((H27).row_rd) Try.underlying22 (show (Try.prog.info? 21).map (fun i => (i.zero, i.size, i.bytes)) = some (some (.int .i32 0), 1, 4) by kernel_rfl) rfl rfl (by first | omega | (simp only [List.length_append, List.length_nil, List.length_cons]; omega) | (simp; omega)) (by first | omega | (simp only [List.length_append, List.length_nil, List.length_cons]; omega) | (simp; omega))) (ltn rfl) ?_
                    rintro l28 w28 H28
                    try simp only [List.nil_append] at H28
                    refine wl_val (r_assign rfl) (ltn rfl) ?_
                    refine wl_nil ?_
                    refine wq_block_normal ?_
                    refine wq_block_normal ?_
                    refine wq_seq ?_
                    refine wc_region ?_
                    refine wl_val (r_move rfl) (ltn rfl) ?_
                    refine wl_val (r_as (r_add rfl rfl (by omega)) ((by first | exact (show Value.int .i64 ((k : Int) + 1) = .int .i64 ((k + 1 : Nat) : Int) from by rw [Int.natCast_add]; rfl) | exact (show Value.int .i64 (((k + 1 : Nat) : Int) + 1) = .int .i64 ((k + 1 + 1 : Nat) : Int) from by rw [Int.natCast_add (k + 1)]; rfl)))) (ltn rfl) ?_
                    refine wl_val (r_assign rfl) (ltn rfl) ?_
                    refine wl_nil ?_
                    refine wq_round (_, _, _) (Sub.cons rfl (Sub.cons rfl (Sub.cons rfl (Sub.nil _)))) (Sub.cons rfl (Sub.nil _)) (by (try dsimp only); exact by first | exact ⟨_, sr_end hsr hkl (by assumption) (by assumption), H28.f2.right⟩ | exact ⟨_, sr_open hsr hkl (by assumption) (by omega), H28.f2.right⟩ | exact ⟨_, sr_back1 hsr (by omega) (by assumption) (by assumption) hs0 hgo, H28.f2.right⟩ | exact ⟨_, sr_back0 hsr (by omega) (by assumption) (by assumption) (by first | exact hgo | exact .inl (by omega) | (rw [show sv = 34 by omega, goes34 (by omega)]; exact .inr (decide_eq_true (in4.1 (by assumption))))), H28.f2.right⟩ | exact ⟨_, sr_last hsr hkl (by omega) (by assumption) (by assumption), H28.f2.right⟩ | exact ⟨_, sr_stay hsr hkl (by omega) (by omega) (by omega), H28.f2.right⟩ | (exfalso; omega)) ?_
                    · (try dsimp only); omega
            · (try simp only [beq_iff_eq, bne_iff_ne, ne_eq, decide_eq_true_eq, decide_eq_false_iff_not, beq_eq_false_iff_ne, bne_eq_false_iff_eq, Bool.not_eq_true', Bool.not_eq_false', Bool.not_eq_eq_eq_not, Bool.not_true, Bool.not_false, gt_iff_lt, ge_iff_le, Int.not_lt, Int.not_le] at h21)
              refine wl_no rfl rfl rfl (ltn rfl) ?_
              refine wl_no rfl rfl rfl (ltn rfl) ?_
              refine wl_no rfl rfl rfl (ltn rfl) ?_
              refine wl_nou rfl rfl (ltn rfl) ?_
              refine wl_nou rfl rfl (ltn rfl) ?_
              refine wl_no rfl rfl rfl (ltn rfl) ?_
              refine wl_no rfl rfl rfl (ltn rfl) ?_
              refine wl_nou rfl rfl (ltn rfl) ?_
              refine wl_nou rfl rfl (ltn rfl) ?_
              refine wl_no rfl rfl rfl (ltn rfl) ?_
              refine wl_val (r_pick_f rfl rfl) (ltn rfl) ?_
              refine wl_val (r_assign rfl) (ltn rfl) ?_
              refine wl_nil ?_
              refine wq_seq ?_
              refine wc_cond_f rfl ?_
              refine wc_region ?_
              refine wl_val (r_move rfl) (ltn rfl) ?_
              refine wl_val (r_move rfl) (ltn rfl) ?_
              refine wl_eff (e_lit_ints (k := .i32) (l := [_]) HL Try.underlying22 Try.sizeOf21 Try.zeroValue21 rfl rfl rfl (by decide)) (ltn rfl) ?_
              rintro l29 w29 H29
              refine wl_eff (e_append_ints H29.f2 ((H29).row_rd) Try.underlying22 (show (Try.prog.info? 21).map (fun i => (i.zero, i.size, i.bytes)) = some (some (.int .i32 0), 1, 4) by kernel_rfl) rfl rfl (by first | omega | (simp only [List.length_append, List.length_nil, List.length_cons]; omega) | (simp; omega)) (by first | omega | (simp only [List.length_append, List.length_nil, List.length_cons]; omega) | (simp; omega))) (ltn rfl) ?_
              rintro l30 w30 H30
              try simp only [List.nil_append] at H30
              refine wl_val (r_assign rfl) (ltn rfl) ?_
              refine wl_nil ?_
              refine wq_block_normal ?_
              refine wq_block_normal ?_
              refine wq_seq ?_
              refine wc_region ?_
              refine wl_val (r_move rfl) (ltn rfl) ?_
              refine wl_val (r_as (r_add rfl rfl (by omega)) ((by first | exact (show Value.int .i64 ((k : Int) + 1) = .int .i64 ((k + 1 : Nat) : Int) from by rw [Int.natCast_add]; rfl) | exact (show Value.int .i64 (((k + 1 : Nat) : Int) + 1) = .int .i64 ((k + 1 + 1 : Nat) : Int) from by rw [Int.natCast_add (k + 1)]; rfl)))) (ltn rfl) ?_
              refine wl_val (r_assign rfl) (ltn rfl) ?_
              refine wl_nil ?_
              refine wq_round (_, _, _) (Sub.cons rfl (Sub.cons rfl (Sub.cons rfl (Sub.nil _)))) (Sub.cons rfl (Sub.nil _)) (by (try dsimp only); exact by first | exact ⟨_, sr_end hsr hkl (by assumption) (by assumption), H30.f2.right⟩ | exact ⟨_, sr_open hsr hkl (by assumption) (by omega), H30.f2.right⟩ | exact ⟨_, sr_back1 hsr (by omega) (by assumption) (by assumption) hs0 hgo, H30.f2.right⟩ | exact ⟨_, sr_back0 hsr (by omega) (by assumption) (by assumption) (by first | exact hgo | exact .inl (by omega) | (rw [show sv = 34 by omega, goes34 (by omega)]; exact .inr (decide_eq_true (in4.1 (by assumption))))), H30.f2.right⟩ | exact ⟨_, sr_last hsr hkl (by omega) (by assumption) (by assumption), H30.f2.right⟩ | exact ⟨_, sr_stay hsr hkl (by omega) (by omega) (by omega), H30.f2.right⟩ | (exfalso; omega)) ?_
              · (try dsimp only); omega
        · (try simp only [beq_iff_eq, bne_iff_ne, ne_eq, decide_eq_true_eq, decide_eq_false_iff_not, beq_eq_false_iff_ne, bne_eq_false_iff_eq, Bool.not_eq_true', Bool.not_eq_false', Bool.not_eq_eq_eq_not, Bool.not_true, Bool.not_false, gt_iff_lt, ge_iff_le, Int.not_lt, Int.not_le] at h4)
          refine wl_no rfl rfl rfl (ltn rfl) ?_
          refine wl_no rfl rfl rfl (ltn rfl) ?_
          refine wl_val (r_pick_f rfl rfl) (ltn rfl) ?_
          refine wl_val (r_assign rfl) (ltn rfl) ?_
          refine wl_nil ?_
          refine wq_seq ?_
          refine wc_cond_f rfl ?_
          refine wc_seq ?_
          refine wc_region ?_
          refine wl_val (r_move rfl) (ltn rfl) ?_
          refine wl_val (r_eql rfl rfl) (ltn rfl) ?_
          refine wl_split rfl (ltn rfl) (fun h25 => ?_) (fun h25 => ?_)
          · (try simp only [beq_iff_eq, bne_iff_ne, ne_eq, decide_eq_true_eq, decide_eq_false_iff_not, beq_eq_false_iff_ne, bne_eq_false_iff_eq, Bool.not_eq_true', Bool.not_eq_false', Bool.not_eq_eq_eq_not, Bool.not_true, Bool.not_false, gt_iff_lt, ge_iff_le, Int.not_lt, Int.not_le] at h25)
            refine wl_yes rfl rfl ?_
            refine wl_val (r_move rfl) (ltn rfl) ?_
            refine wl_yes rfl rfl ?_
            refine wl_val (r_eql rfl rfl) (ltn rfl) ?_
            refine wl_yes rfl rfl ?_
            refine wl_split rfl (ltn rfl) (fun h26 => ?_) (fun h26 => ?_)
            · (try simp only [beq_iff_eq, bne_iff_ne, ne_eq, decide_eq_true_eq, decide_eq_false_iff_not, beq_eq_false_iff_ne, bne_eq_false_iff_eq, Bool.not_eq_true', Bool.not_eq_false', Bool.not_eq_eq_eq_not, Bool.not_true, Bool.not_false, gt_iff_lt, ge_iff_le, Int.not_lt, Int.not_le] at h26)
              refine wl_no rfl rfl rfl (ltn rfl) ?_
              refine wl_no rfl rfl rfl (ltn rfl) ?_
              refine wl_yes rfl rfl ?_
              refine wl_val (r_pick_t rfl rfl) (ltn rfl) ?_
              refine wl_yes rfl rfl ?_
              refine wl_val (r_move rfl) (ltn rfl) ?_
              refine wl_no rfl rfl rfl (ltn rfl) ?_
              refine wl_no rfl rfl rfl (ltn rfl) ?_
              refine wl_yes rfl rfl ?_
              refine wl_val (r_pick_t rfl rfl) (ltn rfl) ?_
              refine wl_val (r_pick_t rfl rfl) (ltn rfl) ?_
              refine wl_val (r_assign rfl) (ltn rfl) ?_
              refine wl_nil ?_
              refine wq_seq ?_
              refine wc_cond_t rfl ?_
              refine wc_region ?_
              refine wl_val (r_move rfl) (ltn rfl) ?_
              refine wl_val (r_assign rfl) (ltn rfl) ?_
              refine wl_nil ?_
              refine wq_block_normal ?_
              refine wq_block_normal ?_
              refine wq_seq ?_
              refine wc_region ?_
              refine wl_val (r_move rfl) (ltn rfl) ?_
              refine wl_val (r_as (r_add rfl rfl (by omega)) ((by first | exact (show Value.int .i64 ((k : Int) + 1) = .int .i64 ((k + 1 : Nat) : Int) from by rw [Int.natCast_add]; rfl) | exact (show Value.int .i64 (((k + 1 : Nat) : Int) + 1) = .int .i64 ((k + 1 + 1 : Nat) : Int) from by rw [Int.natCast_add (k + 1)]; rfl)))) (ltn rfl) ?_
              refine wl_val (r_assign rfl) (ltn rfl) ?_
              refine wl_nil ?_
              refine wq_round (_, _, _) (Sub.cons rfl (Sub.cons rfl (Sub.cons rfl (Sub.nil _)))) (Sub.cons rfl (Sub.nil _)) (by (try dsimp only); exact by first | exact ⟨_, sr_end hsr hkl (by assumption) (by assumption), HL⟩ | exact ⟨_, sr_open hsr hkl (by assumption) (by omega), HL⟩ | exact ⟨_, sr_back1 hsr (by omega) (by assumption) (by assumption) hs0 hgo, HL⟩ | exact ⟨_, sr_back0 hsr (by omega) (by assumption) (by assumption) (by first | exact hgo | exact .inl (by omega) | (rw [show sv = 34 by omega, goes34 (by omega)]; exact .inr (decide_eq_true (in4.1 (by assumption))))), HL⟩ | exact ⟨_, sr_last hsr hkl (by omega) (by assumption) (by assumption), HL⟩ | exact ⟨_, sr_stay hsr hkl (by omega) (by omega) (by omega), HL⟩ | (exfalso; omega)) ?_
              · (try dsimp only); omega
            · (try simp only [beq_iff_eq, bne_iff_ne, ne_eq, decide_eq_true_eq, decide_eq_false_iff_not, beq_eq_false_iff_ne, bne_eq_false_iff_eq, Bool.not_eq_true', Bool.not_eq_false', Bool.not_eq_eq_eq_not, Bool.not_true, Bool.not_false, gt_iff_lt, ge_iff_le, Int.not_lt, Int.not_le] at h26)
              refine wl_yes rfl rfl ?_
              refine wl_val (r_move rfl) (ltn rfl) ?_
              refine wl_yes rfl rfl ?_
              refine wl_val (r_eql rfl rfl) (ltn rfl) ?_
              refine wl_yes rfl rfl ?_
              refine wl_val (r_pick_f rfl rfl) (ltn rfl) ?_
              refine wl_yes rfl rfl ?_
              refine wl_split rfl (ltn rfl) (fun h27 => ?_) (fun h27 => ?_)
              · (try simp only [beq_iff_eq, bne_iff_ne, ne_eq, decide_eq_true_eq, decide_eq_false_iff_not, beq_eq_false_iff_ne, bne_eq_false_iff_eq, Bool.not_eq_true', Bool.not_eq_false', Bool.not_eq_eq_eq_not, Bool.not_true, Bool.not_false, gt_iff_lt, ge_iff_le, Int.not_lt, Int.not_le] at h27)
                refine wl_no rfl rfl rfl (ltn rfl) ?_
                refine wl_no rfl rfl rfl (ltn rfl) ?_
                refine wl_yes rfl rfl ?_
                refine wl_val (r_pick_t rfl rfl) (ltn rfl) ?_
                refine wl_val (r_pick_t rfl rfl) (ltn rfl) ?_
                refine wl_val (r_assign rfl) (ltn rfl) ?_
                refine wl_nil ?_
                refine wq_seq ?_
                refine wc_cond_t rfl ?_
                refine wc_region ?_
                refine wl_val (r_move rfl) (ltn rfl) ?_
                refine wl_val (r_assign rfl) (ltn rfl) ?_
                refine wl_nil ?_
                refine wq_block_normal ?_
                refine wq_block_normal ?_
                refine wq_seq ?_
                refine wc_region ?_
                refine wl_val (r_move rfl) (ltn rfl) ?_
                refine wl_val (r_as (r_add rfl rfl (by omega)) ((by first | exact (show Value.int .i64 ((k : Int) + 1) = .int .i64 ((k + 1 : Nat) : Int) from by rw [Int.natCast_add]; rfl) | exact (show Value.int .i64 (((k + 1 : Nat) : Int) + 1) = .int .i64 ((k + 1 + 1 : Nat) : Int) from by rw [Int.natCast_add (k + 1)]; rfl)))) (ltn rfl) ?_
                refine wl_val (r_assign rfl) (ltn rfl) ?_
                refine wl_nil ?_
                refine wq_round (_, _, _) (Sub.cons rfl (Sub.cons rfl (Sub.cons rfl (Sub.nil _)))) (Sub.cons rfl (Sub.nil _)) (by (try dsimp only); exact by first | exact ⟨_, sr_end hsr hkl (by assumption) (by assumption), HL⟩ | exact ⟨_, sr_open hsr hkl (by assumption) (by omega), HL⟩ | exact ⟨_, sr_back1 hsr (by omega) (by assumption) (by assumption) hs0 hgo, HL⟩ | exact ⟨_, sr_back0 hsr (by omega) (by assumption) (by assumption) (by first | exact hgo | exact .inl (by omega) | (rw [show sv = 34 by omega, goes34 (by omega)]; exact .inr (decide_eq_true (in4.1 (by assumption))))), HL⟩ | exact ⟨_, sr_last hsr hkl (by omega) (by assumption) (by assumption), HL⟩ | exact ⟨_, sr_stay hsr hkl (by omega) (by omega) (by omega), HL⟩ | (exfalso; omega)) ?_
                · (try dsimp only); omega
              · (try simp only [beq_iff_eq, bne_iff_ne, ne_eq, decide_eq_true_eq, decide_eq_false_iff_not, beq_eq_false_iff_ne, bne_eq_false_iff_eq, Bool.not_eq_true', Bool.not_eq_false', Bool.not_eq_eq_eq_not, Bool.not_true, Bool.not_false, gt_iff_lt, ge_iff_le, Int.not_lt, Int.not_le] at h27)
                refine wl_yes rfl rfl ?_
                refine wl_val (r_move rfl) (ltn rfl) ?_
                refine wl_yes rfl rfl ?_
                refine wl_val (r_eql rfl rfl) (ltn rfl) ?_
                refine wl_yes rfl rfl ?_
                refine wl_val (r_pick_f rfl rfl) (ltn rfl) ?_
                refine wl_val (r_pick_t rfl rfl) (ltn rfl) ?_
                refine wl_val (r_assign rfl) (ltn rfl) ?_
                refine wl_nil ?_
                refine wq_seq ?_
                refine wc_cond rfl (fun h28 => ?_) (fun h28 => ?_)
                · (try simp only [beq_iff_eq, bne_iff_ne, ne_eq, decide_eq_true_eq, decide_eq_false_iff_not, beq_eq_false_iff_ne, bne_eq_false_iff_eq, Bool.not_eq_true', Bool.not_eq_false', Bool.not_eq_eq_eq_not, Bool.not_true, Bool.not_false, gt_iff_lt, ge_iff_le, Int.not_lt, Int.not_le] at h28)
                  
                  refine wc_region ?_
                  refine wl_val (r_move rfl) (ltn rfl) ?_
                  refine wl_val (r_assign rfl) (ltn rfl) ?_
                  refine wl_nil ?_
                  refine wq_block_normal ?_
                  refine wq_block_normal ?_
                  refine wq_seq ?_
                  refine wc_region ?_
                  refine wl_val (r_move rfl) (ltn rfl) ?_
                  refine wl_val (r_as (r_add rfl rfl (by omega)) ((by first | exact (show Value.int .i64 ((k : Int) + 1) = .int .i64 ((k + 1 : Nat) : Int) from by rw [Int.natCast_add]; rfl) | exact (show Value.int .i64 (((k + 1 : Nat) : Int) + 1) = .int .i64 ((k + 1 + 1 : Nat) : Int) from by rw [Int.natCast_add (k + 1)]; rfl)))) (ltn rfl) ?_
                  refine wl_val (r_assign rfl) (ltn rfl) ?_
                  refine wl_nil ?_
                  refine wq_round (_, _, _) (Sub.cons rfl (Sub.cons rfl (Sub.cons rfl (Sub.nil _)))) (Sub.cons rfl (Sub.nil _)) (by (try dsimp only); exact by first | exact ⟨_, sr_end hsr hkl (by assumption) (by assumption), HL⟩ | exact ⟨_, sr_open hsr hkl (by assumption) (by omega), HL⟩ | exact ⟨_, sr_back1 hsr (by omega) (by assumption) (by assumption) hs0 hgo, HL⟩ | exact ⟨_, sr_back0 hsr (by omega) (by assumption) (by assumption) (by first | exact hgo | exact .inl (by omega) | (rw [show sv = 34 by omega, goes34 (by omega)]; exact .inr (decide_eq_true (in4.1 (by assumption))))), HL⟩ | exact ⟨_, sr_last hsr hkl (by omega) (by assumption) (by assumption), HL⟩ | exact ⟨_, sr_stay hsr hkl (by omega) (by omega) (by omega), HL⟩ | (exfalso; omega)) ?_
                  · (try dsimp only); omega
                · (try simp only [beq_iff_eq, bne_iff_ne, ne_eq, decide_eq_true_eq, decide_eq_false_iff_not, beq_eq_false_iff_ne, bne_eq_false_iff_eq, Bool.not_eq_true', Bool.not_eq_false', Bool.not_eq_eq_eq_not, Bool.not_true, Bool.not_false, gt_iff_lt, ge_iff_le, Int.not_lt, Int.not_le] at h28)
                  
                  refine wc_region ?_
                  refine wl_val (r_move rfl) (ltn rfl) ?_
                  refine wl_val (r_move rfl) (ltn rfl) ?_
                  refine wl_eff (e_lit_ints (k := .i32) (l := [_]) HL Try.underlying22 Try.sizeOf21 Try.zeroValue21 rfl rfl rfl (by decide)) (ltn rfl) ?_
                  rintro l31 w31 H31
                  refine wl_eff (e_append_ints H31.f2 ((H31).row_rd) Try.underlying22 (show (Try.prog.info? 21).map (fun i => (i.zero, i.size, i.bytes)) = some (some (.int .i32 0), 1, 4) by kernel_rfl) rfl rfl (by first | omega | (simp only [List.length_append, List.length_nil, List.length_cons]; omega) | (simp; omega)) (by first | omega | (simp only [List.length_append, List.length_nil, List.length_cons]; omega) | (simp; omega))) (ltn rfl) ?_
                  rintro l32 w32 H32
                  try simp only [List.nil_append] at H32
                  refine wl_val (r_assign rfl) (ltn rfl) ?_
                  refine wl_nil ?_
                  refine wq_block_normal ?_
                  refine wq_block_normal ?_
                  refine wq_seq ?_
                  refine wc_region ?_
                  refine wl_val (r_move rfl) (ltn rfl) ?_
                  refine wl_val (r_as (r_add rfl rfl (by omega)) ((by first | exact (show Value.int .i64 ((k : Int) + 1) = .int .i64 ((k + 1 : Nat) : Int) from by rw [Int.natCast_add]; rfl) | exact (show Value.int .i64 (((k + 1 : Nat) : Int) + 1) = .int .i64 ((k + 1 + 1 : Nat) : Int) from by rw [Int.natCast_add (k + 1)]; rfl)))) (ltn rfl) ?_
                  refine wl_val (r_assign rfl) (ltn rfl) ?_
                  refine wl_nil ?_
                  refine wq_round (_, _, _) (Sub.cons rfl (Sub.cons rfl (Sub.cons rfl (Sub.nil _)))) (Sub.cons rfl (Sub.nil _)) (by (try dsimp only); exact by first | exact ⟨_, sr_end hsr hkl (by assumption) (by assumption), H32.f2.right⟩ | exact ⟨_, sr_open hsr hkl (by assumption) (by omega), H32.f2.right⟩ | exact ⟨_, sr_back1 hsr (by omega) (by assumption) (by assumption) hs0 hgo, H32.f2.right⟩ | exact ⟨_, sr_back0 hsr (by omega) (by assumption) (by assumption) (by first | exact hgo | exact .inl (by omega) | (rw [show sv = 34 by omega, goes34 (by omega)]; exact .inr (decide_eq_true (in4.1 (by assumption))))), H32.f2.right⟩ | exact ⟨_, sr_last hsr hkl (by omega) (by assumption) (by assumption), H32.f2.right⟩ | exact ⟨_, sr_stay hsr hkl (by omega) (by omega) (by omega), H32.f2.right⟩ | (exfalso; omega)) ?_
                  · (try dsimp only); omega
          · (try simp only [beq_iff_eq, bne_iff_ne, ne_eq, decide_eq_true_eq, decide_eq_false_iff_not, beq_eq_false_iff_ne, bne_eq_false_iff_eq, Bool.not_eq_true', Bool.not_eq_false', Bool.not_eq_eq_eq_not, Bool.not_true, Bool.not_false, gt_iff_lt, ge_iff_le, Int.not_lt, Int.not_le] at h25)
            refine wl_no rfl rfl rfl (ltn rfl) ?_
            refine wl_no rfl rfl rfl (ltn rfl) ?_
            refine wl_no rfl rfl rfl (ltn rfl) ?_
            refine wl_nou rfl rfl (ltn rfl) ?_
            refine wl_nou rfl rfl (ltn rfl) ?_
            refine wl_no rfl rfl rfl (ltn rfl) ?_
            refine wl_no rfl rfl rfl (ltn rfl) ?_
            refine wl_nou rfl rfl (ltn rfl) ?_
            refine wl_nou rfl rfl (ltn rfl) ?_
            refine wl_no rfl rfl rfl (ltn rfl) ?_
            refine wl_val (r_pick_f rfl rfl) (ltn rfl) ?_
            refine wl_val (r_assign rfl) (ltn rfl) ?_
            refine wl_nil ?_
            refine wq_seq ?_
            refine wc_cond_f rfl ?_
            refine wc_region ?_
            refine wl_val (r_move rfl) (ltn rfl) ?_
            refine wl_val (r_move rfl) (ltn rfl) ?_
            refine wl_eff (e_lit_ints (k := .i32) (l := [_]) HL Try.underlying22 Try.sizeOf21 Try.zeroValue21 rfl rfl rfl (by decide)) (ltn rfl) ?_
            rintro l33 w33 H33
            refine wl_eff (e_append_ints H33.f2 ((H33).row_rd) Try.underlying22 (show (Try.prog.info? 21).map (fun i => (i.zero, i.size, i.bytes)) = some (some (.int .i32 0), 1, 4) by kernel_rfl) rfl rfl (by first | omega | (simp only [List.length_append, List.length_nil, List.length_cons]; omega) | (simp; omega)) (by first | omega | (simp only [List.length_append, List.length_nil, List.length_cons]; omega) | (simp; omega))) (ltn rfl) ?_
            rintro l34 w34 H34
            try simp only [List.nil_append] at H34
            refine wl_val (r_assign rfl) (ltn rfl) ?_
            refine wl_nil ?_
            refine wq_block_normal ?_
            refine wq_block_normal ?_
            refine wq_seq ?_
            refine wc_region ?_
            refine wl_val (r_move rfl) (ltn rfl) ?_
            refine wl_val (r_as (r_add rfl rfl (by omega)) ((by first | exact (show Value.int .i64 ((k : Int) + 1) = .int .i64 ((k + 1 : Nat) : Int) from by rw [Int.natCast_add]; rfl) | exact (show Value.int .i64 (((k + 1 : Nat) : Int) + 1) = .int .i64 ((k + 1 + 1 : Nat) : Int) from by rw [Int.natCast_add (k + 1)]; rfl)))) (ltn rfl) ?_
            refine wl_val (r_assign rfl) (ltn rfl) ?_
            refine wl_nil ?_
            refine wq_round (_, _, _) (Sub.cons rfl (Sub.cons rfl (Sub.cons rfl (Sub.nil _)))) (Sub.cons rfl (Sub.nil _)) (by (try dsimp only); exact by first | exact ⟨_, sr_end hsr hkl (by assumption) (by assumption), H34.f2.right⟩ | exact ⟨_, sr_open hsr hkl (by assumption) (by omega), H34.f2.right⟩ | exact ⟨_, sr_back1 hsr (by omega) (by assumption) (by assumption) hs0 hgo, H34.f2.right⟩ | exact ⟨_, sr_back0 hsr (by omega) (by assumption) (by assumption) (by first | exact hgo | exact .inl (by omega) | (rw [show sv = 34 by omega, goes34 (by omega)]; exact .inr (decide_eq_true (in4.1 (by assumption))))), H34.f2.right⟩ | exact ⟨_, sr_last hsr hkl (by omega) (by assumption) (by assumption), H34.f2.right⟩ | exact ⟨_, sr_stay hsr hkl (by omega) (by omega) (by omega), H34.f2.right⟩ | (exfalso; omega)) ?_
            · (try dsimp only); omega
    · (try simp only [beq_iff_eq, bne_iff_ne, ne_eq, decide_eq_true_eq, decide_eq_false_iff_not, beq_eq_false_iff_ne, bne_eq_false_iff_eq, Bool.not_eq_true', Bool.not_eq_false', Bool.not_eq_eq_eq_not, Bool.not_true, Bool.not_false, gt_iff_lt, ge_iff_le, Int.not_lt, Int.not_le] at h2)
      refine wl_no rfl rfl rfl (ltn rfl) ?_
      refine wl_no rfl rfl rfl (ltn rfl) ?_
      refine wl_no rfl rfl rfl (ltn rfl) ?_
      refine wl_val (r_pick_f rfl rfl) (ltn rfl) ?_
      refine wl_val (r_assign rfl) (ltn rfl) ?_
      refine wl_nil ?_
      refine wq_seq ?_
      refine wc_cond_f rfl ?_
      refine wc_seq ?_
      refine wc_region ?_
      refine wl_val (r_move rfl) (ltn rfl) ?_
      refine wl_val (r_neq rfl rfl) (ltn rfl) ?_
      refine wl_split rfl (ltn rfl) (fun h29 => ?_) (fun h29 => ?_)
      · (try simp only [beq_iff_eq, bne_iff_ne, ne_eq, decide_eq_true_eq, decide_eq_false_iff_not, beq_eq_false_iff_ne, bne_eq_false_iff_eq, Bool.not_eq_true', Bool.not_eq_false', Bool.not_eq_eq_eq_not, Bool.not_true, Bool.not_false, gt_iff_lt, ge_iff_le, Int.not_lt, Int.not_le] at h29)
        refine wl_yes rfl rfl ?_
        refine wl_val (r_move rfl) (ltn rfl) ?_
        refine wl_yes rfl rfl ?_
        refine wl_val (r_eql rfl rfl) (ltn rfl) ?_
        refine wl_val (r_pick_t rfl rfl) (ltn rfl) ?_
        refine wl_val (r_assign rfl) (ltn rfl) ?_
        refine wl_nil ?_
        refine wq_seq ?_
        refine wc_cond rfl (fun h30 => ?_) (fun h30 => ?_)
        · (try simp only [beq_iff_eq, bne_iff_ne, ne_eq, decide_eq_true_eq, decide_eq_false_iff_not, beq_eq_false_iff_ne, bne_eq_false_iff_eq, Bool.not_eq_true', Bool.not_eq_false', Bool.not_eq_eq_eq_not, Bool.not_true, Bool.not_false, gt_iff_lt, ge_iff_le, Int.not_lt, Int.not_le] at h30)
          
          refine wc_seq ?_
          refine wc_region ?_
          refine wl_val (r_move rfl) (ltn rfl) ?_
          refine wl_val (r_as (r_add rfl rfl (by omega)) (show Value.int .i64 ((k : Int) + 1) = .int .i64 ((k + 1 : Nat) : Int) by rw [Int.natCast_add]; rfl)) (ltn rfl) ?_
          refine wl_val (r_move rfl) (ltn rfl) ?_
          refine wl_val (r_len Try.underlying22 rfl) (ltn rfl) ?_
          refine wl_val (r_lss rfl rfl) (ltn rfl) ?_
          refine wl_split rfl (ltn rfl) (fun h31 => ?_) (fun h31 => ?_)
          · (try simp only [beq_iff_eq, bne_iff_ne, ne_eq, decide_eq_true_eq, decide_eq_false_iff_not, beq_eq_false_iff_ne, bne_eq_false_iff_eq, Bool.not_eq_true', Bool.not_eq_false', Bool.not_eq_eq_eq_not, Bool.not_true, Bool.not_false, gt_iff_lt, ge_iff_le, Int.not_lt, Int.not_le] at h31)
            refine wl_yes rfl rfl ?_
            refine wl_val (r_move rfl) (ltn rfl) ?_
            refine wl_yes rfl rfl ?_
            refine wl_val (r_eql rfl rfl) (ltn rfl) ?_
            refine wl_yes rfl rfl ?_
            refine wl_split rfl (ltn rfl) (fun h32 => ?_) (fun h32 => ?_)
            · (try simp only [beq_iff_eq, bne_iff_ne, ne_eq, decide_eq_true_eq, decide_eq_false_iff_not, beq_eq_false_iff_ne, bne_eq_false_iff_eq, Bool.not_eq_true', Bool.not_eq_false', Bool.not_eq_eq_eq_not, Bool.not_true, Bool.not_false, gt_iff_lt, ge_iff_le, Int.not_lt, Int.not_le] at h32)
              refine wl_yes rfl rfl ?_
              refine wl_val (r_move rfl) (ltn rfl) ?_
              refine wl_yes rfl rfl ?_
              refine wl_val (r_move rfl) (ltn rfl) ?_
              refine wl_yes rfl rfl ?_
              refine wl_val (r_as (r_add rfl rfl (by omega)) (show Value.int .i64 ((k : Int) + 1) = .int .i64 ((k + 1 : Nat) : Int) by rw [Int.natCast_add]; rfl)) (ltn rfl) ?_
              refine wl_yes rfl rfl ?_
              refine wl_val (r_index Try.underlying22 Try.sizeOf21 rfl rfl (by omega)) (ltn rfl) ?_
              refine wl_yes rfl rfl ?_
              refine wl_val (r_load (plain_of Try.underlying21 rfl) rfl (by first | exact RdI.at1n (hv _ (HL.right)) (by omega) | exact RdI.at0 (hv _ (HL.right)) (by omega) | exact RdI.at1 (hv _ (HL.right)) (by omega))) (ltn rfl) ?_
              refine wl_yes rfl rfl ?_
              refine wl_eff (e_call (r_call rfl Try.func38 rfl rfl) (ref_in_ret (by decide))) (ltn rfl) ?_
              rintro _ _ ⟨rfl, rfl⟩
              refine wl_yes rfl rfl ?_
              refine wl_val (r_not rfl) (ltn rfl) ?_
              refine wl_yes rfl rfl ?_
              refine wl_val (r_pick_t rfl rfl) (ltn rfl) ?_
              refine wl_yes rfl rfl ?_
              refine wl_split rfl (ltn rfl) (fun h33 => ?_) (fun h33 => ?_)
              · (try simp only [beq_iff_eq, bne_iff_ne, ne_eq, decide_eq_true_eq, decide_eq_false_iff_not, beq_eq_false_iff_ne, bne_eq_false_iff_eq, Bool.not_eq_true', Bool.not_eq_false', Bool.not_eq_eq_eq_not, Bool.not_true, Bool.not_false, gt_iff_lt, ge_iff_le, Int.not_lt, Int.not_le] at h33)
                refine wl_no rfl rfl rfl (ltn rfl) ?_
                refine wl_no rfl rfl rfl (ltn rfl) ?_
                refine wl_no rfl rfl rfl (ltn rfl) ?_
                refine wl_nou rfl rfl (ltn rfl) ?_
                refine wl_nou rfl rfl (ltn rfl) ?_
                refine wl_nou rfl rfl (ltn rfl) ?_
                refine wl_nou rfl rfl (ltn rfl) ?_
                refine wl_nou rfl rfl (ltn rfl) ?_
                refine wl_nou rfl rfl (ltn rfl) ?_
                refine wl_nou rfl rfl (ltn rfl) ?_
                refine wl_no rfl rfl rfl (ltn rfl) ?_
                refine wl_yes rfl rfl ?_
                refine wl_val (r_pick_t rfl rfl) (ltn rfl) ?_
                refine wl_val (r_pick_t rfl rfl) (ltn rfl) ?_
                refine wl_val (r_assign rfl) (ltn rfl) ?_
                refine wl_nil ?_
                refine wq_seq ?_
                refine wc_seq ?_
                refine wc_seq ?_
                refine wc_region ?_
                refine wl_val (r_move rfl) (ltn rfl) ?_
                refine wl_nil ?_
                refine wq_seq ?_
                refine wc_cond_t rfl ?_
                have hs0 : ¬ sv = 0 := by omega
                have hgo : goesL sv (l.drop (k + 1)) = false := by first | (rw [show sv = 34 by omega, goes34 (by omega)]; exact decide_eq_false (fun q => absurd (in4.2 q) (by assumption))) | (rw [show sv = 96 by omega, goes96 (by omega)]; exact decide_eq_false (fun q => absurd (in2.2 q) (by assumption)))
                refine wc_region ?_
                refine wl_val (r_move rfl) (ltn rfl) ?_
                refine wl_val (r_move rfl) (ltn rfl) ?_
                refine wl_eff (e_lit_ints (k := .i32) (l := [_]) HL Try.underlying22 Try.sizeOf21 Try.zeroValue21 rfl rfl rfl (by decide)) (ltn rfl) ?_
                rintro l36 w36 H36
                refine wl_eff (e_append_ints H36.f2 ((H36).row_rd) Try.underlying22 (show (Try.prog.info? 21).map (fun i => (i.zero, i.size, i.bytes)) = some (some (.int .i32 0), 1, 4) by kernel_rfl) rfl rfl (by first | omega | (simp only [List.length_append, List.length_nil, List.length_cons]; omega) | (simp; omega)) (by first | omega | (simp only [List.length_append, List.length_nil, List.length_cons]; omega) | (simp; omega))) (ltn rfl) ?_
                rintro l37 w37 H37
                try simp only [List.nil_append] at H37
                refine wl_val (r_assign rfl) (ltn rfl) ?_
                refine wl_nil ?_
                refine wq_seq ?_
                refine wc_seq ?_
                refine wc_region ?_
                refine wl_val (r_move rfl) (ltn rfl) ?_
                refine wl_val (r_as (r_add rfl rfl (by omega)) (show Value.int .i64 ((k : Int) + 1) = .int .i64 ((k + 1 : Nat) : Int) by rw [Int.natCast_add]; rfl)) (ltn rfl) ?_
                refine wl_val (r_move rfl) (ltn rfl) ?_
                refine wl_val (r_len Try.underlying22 rfl) (ltn rfl) ?_
                refine wl_val (r_lss rfl rfl) (ltn rfl) ?_
                refine wl_nil ?_
                refine wq_seq ?_
                refine wc_cond rfl (fun h34 => ?_) (fun h34 => ?_)
                · (try simp only [beq_iff_eq, bne_iff_ne, ne_eq, decide_eq_true_eq, decide_eq_false_iff_not, beq_eq_false_iff_ne, bne_eq_false_iff_eq, Bool.not_eq_true', Bool.not_eq_false', Bool.not_eq_eq_eq_not, Bool.not_true, Bool.not_false, gt_iff_lt, ge_iff_le, Int.not_lt, Int.not_le] at h34)
                  
                  refine wc_seq ?_
                  refine wc_region ?_
                  refine wl_val (r_move rfl) (ltn rfl) ?_
                  refine wl_val (r_as (r_add rfl rfl (by omega)) (show Value.int .i64 ((k : Int) + 1) = .int .i64 ((k + 1 : Nat) : Int) by rw [Int.natCast_add]; rfl)) (ltn rfl) ?_
                  refine wl_val (r_assign rfl) (ltn rfl) ?_
                  refine wl_nil ?_
                  refine wq_seq ?_
                  refine wc_region ?_
                  refine wl_val (r_move rfl) (ltn rfl) ?_
                  refine wl_val (r_move rfl) (ltn rfl) ?_
                  refine wl_val (r_move rfl) (ltn rfl) ?_
                  refine wl_val (r_index Try.underlying22 Try.sizeOf21 rfl rfl (by omega)) (ltn rfl) ?_
                  refine wl_val (r_load (plain_of Try.underlying21 rfl) rfl (by first | exact RdI.at1n (hv _ (H37.right.right)) (by omega) | exact RdI.at0 (hv _ (H37.right.right)) (by omega) | exact RdI.at1 (hv _ (H37.right.right)) (by omega))) (ltn rfl) ?_
                  refine wl_eff (e_lit_ints (k := .i32) (l := [_]) H37 Try.underlying22 Try.sizeOf21 Try.zeroValue21 rfl rfl rfl (by decide)) (ltn rfl) ?_
                  rintro l38 w38 H38
                  refine wl_eff (e_append_ints H38.f2 ((H38).row_rd) Try.underlying22 (show (Try.prog.info? 21).map (fun i => (i.zero, i.size, i.bytes)) = some (some (.int .i32 0), 1, 4) by kernel_rfl) rfl rfl (by first | omega | (simp only [List.length_append, List.length_nil, List.length_cons]; omega) | (simp; omega)) (by first | omega | (simp only [List.length_append, List.length_nil, List.length_cons]; omega) | (simp; omega))) (ltn rfl) ?_
                  rintro l39 w39 H39
                  try simp only [List.nil_append] at H39
                  refine wl_val (r_assign rfl) (ltn rfl) ?_
                  refine wl_nil ?_
                  refine wq_block_normal ?_
                  refine wq_block_normal ?_
                  refine wq_seq ?_
                  refine wc_region ?_
                  refine wl_val (r_move rfl) (ltn rfl) ?_
                  refine wl_val (r_as (r_add rfl rfl (by omega)) ((by first | exact (show Value.int .i64 ((k : Int) + 1) = .int .i64 ((k + 1 : Nat) : Int) from by rw [Int.natCast_add]; rfl) | exact (show Value.int .i64 (((k + 1 : Nat) : Int) + 1) = .int .i64 ((k + 1 + 1 : Nat) : Int) from by rw [Int.natCast_add (k + 1)]; rfl)))) (ltn rfl) ?_
                  refine wl_val (r_assign rfl) (ltn rfl) ?_
                  refine wl_nil ?_
                  refine wq_round (_, _, _) (Sub.cons rfl (Sub.cons rfl (Sub.cons rfl (Sub.nil _)))) (Sub.cons rfl (Sub.nil _)) (by (try dsimp only); exact by first | exact ⟨_, sr_end hsr hkl (by assumption) (by assumption), H39.f2.right.f2.right⟩ | exact ⟨_, sr_open hsr hkl (by assumption) (by omega), H39.f2.right.f2.right⟩ | exact ⟨_, sr_back1 hsr (by omega) (by assumption) (by assumption) hs0 hgo, H39.f2.right.f2.right⟩ | exact ⟨_, sr_back0 hsr (by omega) (by assumption) (by assumption) (by first | exact hgo | exact .inl (by omega) | (rw [show sv = 34 by omega, goes34 (by omega)]; exact .inr (decide_eq_true (in4.1 (by assumption))))), H39.f2.right.f2.right⟩ | exact ⟨_, sr_last hsr hkl (by omega) (by assumption) (by assumption), H39.f2.right.f2.right⟩ | exact ⟨_, sr_stay hsr hkl (by omega) (by omega) (by omega), H39.f2.right.f2.right⟩ | (exfalso; omega)) ?_
                  · (try dsimp only); omega
                · (try simp only [beq_iff_eq, bne_iff_ne, ne_eq, decide_eq_true_eq, decide_eq_false_iff_not, beq_eq_false_iff_ne, bne_eq_false_iff_eq, Bool.not_eq_true', Bool.not_eq_false', Bool.not_eq_eq_eq_not, Bool.not_true, Bool.not_false, gt_iff_lt, ge_iff_le, Int.not_lt, Int.not_le] at h34)
                  
                  refine wc_skip ?_
                  refine wq_block_normal ?_
                  refine wq_block_normal ?_
                  refine wq_seq ?_
                  refine wc_region ?_
                  refine wl_val (r_move rfl) (ltn rfl) ?_
                  refine wl_val (r_as (r_add rfl rfl (by omega)) ((by first | exact (show Value.int .i64 ((k : Int) + 1) = .int .i64 ((k + 1 : Nat) : Int) from by rw [Int.natCast_add]; rfl) | exact (show Value.int .i64 (((k + 1 : Nat) : Int) + 1) = .int .i64 ((k + 1 + 1 : Nat) : Int) from by rw [Int.natCast_add (k + 1)]; rfl)))) (ltn rfl) ?_
                  refine wl_val (r_assign rfl) (ltn rfl) ?_
                  refine wl_nil ?_
                  refine wq_round (_, _, _) (Sub.cons rfl (Sub.cons rfl (Sub.cons rfl (Sub.nil _)))) (Sub.cons rfl (Sub.nil _)) (by (try dsimp only); exact by first | exact ⟨_, sr_end hsr hkl (by assumption) (by assumption), H37.f2.right⟩ | exact ⟨_, sr_open hsr hkl (by assumption) (by omega), H37.f2.right⟩ | exact ⟨_, sr_back1 hsr (by omega) (by assumption) (by assumption) hs0 hgo, H37.f2.right⟩ | exact ⟨_, sr_back0 hsr (by omega) (by assumption) (by assumption) (by first | exact hgo | exact .inl (by omega) | (rw [show sv = 34 by omega, goes34 (by omega)]; exact .inr (decide_eq_true (in4.1 (by assumption))))), H37.f2.right⟩ | exact ⟨_, sr_last hsr hkl (by omega) (by assumption) (by assumption), H37.f2.right⟩ | exact ⟨_, sr_stay hsr hkl (by omega) (by omega) (by omega), H37.f2.right⟩ | (exfalso; omega)) ?_
                  · (try dsimp only); omega
              · (try simp only [beq_iff_eq, bne_iff_ne, ne_eq, decide_eq_true_eq, decide_eq_false_iff_not, beq_eq_false_iff_ne, bne_eq_false_iff_eq, Bool.not_eq_true', Bool.not_eq_false', Bool.not_eq_eq_eq_not, Bool.not_true, Bool.not_false, gt_iff_lt, ge_iff_le, Int.not_lt, Int.not_le] at h33)
                refine wl_yes rfl rfl ?_
                refine wl_val (r_move rfl) (ltn rfl) ?_
                refine wl_yes rfl rfl ?_
                refine wl_val (r_eql rfl rfl) (ltn rfl) ?_
                refine wl_yes rfl rfl ?_
                refine wl_split rfl (ltn rfl) (fun h35 => ?_) (fun h35 => ?_)
                · (try simp only [beq_iff_eq, bne_iff_ne, ne_eq, decide_eq_true_eq, decide_eq_false_iff_not, beq_eq_false_iff_ne, bne_eq_false_iff_eq, Bool.not_eq_true', Bool.not_eq_false', Bool.not_eq_eq_eq_not, Bool.not_true, Bool.not_false, gt_iff_lt, ge_iff_le, Int.not_lt, Int.not_le] at h35)
                  refine wl_yes rfl rfl ?_
                  refine wl_val (r_move rfl) (ltn rfl) ?_
                  refine wl_yes rfl rfl ?_
                  refine wl_val (r_move rfl) (ltn rfl) ?_
                  refine wl_yes rfl rfl ?_
                  refine wl_val (r_as (r_add rfl rfl (by omega)) (show Value.int .i64 ((k : Int) + 1) = .int .i64 ((k + 1 : Nat) : Int) by rw [Int.natCast_add]; rfl)) (ltn rfl) ?_
                  refine wl_yes rfl rfl ?_
                  refine wl_val (r_index Try.underlying22 Try.sizeOf21 rfl rfl (by omega)) (ltn rfl) ?_
                  refine wl_yes rfl rfl ?_
                  refine wl_val (r_load (plain_of Try.underlying21 rfl) rfl (by first | exact RdI.at1n (hv _ (HL.right)) (by omega) | exact RdI.at0 (hv _ (HL.right)) (by omega) | exact RdI.at1 (hv _ (HL.right)) (by omega))) (ltn rfl) ?_
                  refine wl_yes rfl rfl ?_
                  refine wl_eff (e_call (r_call rfl Try.func38 rfl rfl) (ref_in_ret (by decide))) (ltn rfl) ?_
                  rintro _ _ ⟨rfl, rfl⟩
                  refine wl_yes rfl rfl ?_
                  refine wl_val (r_not rfl) (ltn rfl) ?_
                  refine wl_yes rfl rfl ?_
                  refine wl_val (r_pick_t rfl rfl) (ltn rfl) ?_
                  refine wl_yes rfl rfl ?_
                  refine wl_val (r_pick_f rfl rfl) (ltn rfl) ?_
                  refine wl_val (r_pick_t rfl rfl) (ltn rfl) ?_
                  refine wl_val (r_assign rfl) (ltn rfl) ?_
                  refine wl_nil ?_
                  refine wq_seq ?_
                  refine wc_seq ?_
                  refine wc_seq ?_
                  refine wc_region ?_
                  refine wl_val (r_move rfl) (ltn rfl) ?_
                  refine wl_nil ?_
                  refine wq_seq ?_
                  refine wc_cond rfl (fun h36 => ?_) (fun h36 => ?_)
                  · (try simp only [beq_iff_eq, bne_iff_ne, ne_eq, decide_eq_true_eq, decide_eq_false_iff_not, beq_eq_false_iff_ne, bne_eq_false_iff_eq, Bool.not_eq_true', Bool.not_eq_false', Bool.not_eq_eq_eq_not, Bool.not_true, Bool.not_false, gt_iff_lt, ge_iff_le, Int.not_lt, Int.not_le] at h36)
                    
                    have hs0 : ¬ sv = 0 := by omega
                    have hgo : goesL sv (l.drop (k + 1)) = false := by first | (rw [show sv = 34 by omega, goes34 (by omega)]; exact decide_eq_false (fun q => absurd (in4.2 q) (by assumption))) | (rw [show sv = 96 by omega, goes96 (by omega)]; exact decide_eq_false (fun q => absurd (in2.2 q) (by assumption)))
                    refine wc_region ?_
                    refine wl_val (r_move rfl) (ltn rfl) ?_
                    refine wl_val (r_move rfl) (ltn rfl) ?_
                    refine wl_eff (e_lit_ints (k := .i32) (l := [_]) HL Try.underlying22 Try.sizeOf21 Try.zeroValue21 rfl rfl rfl (by decide)) (ltn rfl) ?_
                    rintro l41 w41 H41
                    refine wl_eff (e_append_ints H41.f2 ((H41).row_rd) Try.underlying22 (show (Try.prog.info? 21).map (fun i => (i.zero, i.size, i.bytes)) = some (some (.int .i32 0), 1, 4) by kernel_rfl) rfl rfl (by first | omega | (simp only [List.length_append, List.length_nil, List.length_cons]; omega) | (simp; omega)) (by first | omega | (simp only [List.length_append, List.length_nil, List.length_cons]; omega) | (simp; omega))) (ltn rfl) ?_
                    rintro l42 w42 H42
                    try simp only [List.nil_append] at H42
                    refine wl_val (r_assign rfl) (ltn rfl) ?_
                    refine wl_nil ?_
                    refine wq_seq ?_
                    refine wc_seq ?_
                    refine wc_region ?_
                    refine wl_val (r_move rfl) (ltn rfl) ?_
                    refine wl_val (r_as (r_add rfl rfl (by omega)) (show Value.int .i64 ((k : Int) + 1) = .int .i64 ((k + 1 : Nat) : Int) by rw [Int.natCast_add]; rfl)) (ltn rfl) ?_
                    refine wl_val (r_move rfl) (ltn rfl) ?_
                    refine wl_val (r_len Try.underlying22 rfl) (ltn rfl) ?_
                    refine wl_val (r_lss rfl rfl) (ltn rfl) ?_
                    refine wl_nil ?_
                    refine wq_seq ?_
                    refine wc_cond rfl (fun h37 => ?_) (fun h37 => ?_)
                    · (try simp only [beq_iff_eq, bne_iff_ne, ne_eq, decide_eq_true_eq, decide_eq_false_iff_not, beq_eq_false_iff_ne, bne_eq_false_iff_eq, Bool.not_eq_true', Bool.not_eq_false', Bool.not_eq_eq_eq_not, Bool.not_true, Bool.not_false, gt_iff_lt, ge_iff_le, Int.not_lt, Int.not_le] at h37)
                      
                      refine wc_seq ?_
                      refine wc_region ?_
                      refine wl_val (r_move rfl) (ltn rfl) ?_
                      refine wl_val (r_as (r_add rfl rfl (by omega)) (show Value.int .i64 ((k : Int) + 1) = .int .i64 ((k + 1 : Nat) : Int) by rw [Int.natCast_add]; rfl)) (ltn rfl) ?_
                      refine wl_val (r_assign rfl) (ltn rfl) ?_
                      refine wl_nil ?_
                      refine wq_seq ?_
                      refine wc_region ?_
                      refine wl_val (r_move rfl) (ltn rfl) ?_
                      refine wl_val (r_move rfl) (ltn rfl) ?_
                      refine wl_val (r_move rfl) (ltn rfl) ?_
                      refine wl_val (r_index Try.underlying22 Try.sizeOf21 rfl rfl (by omega)) (ltn rfl) ?_
                      refine wl_val (r_load (plain_of Try.underlying21 rfl) rfl (by first | exact RdI.at1n (hv _ (H42.right.right)) (by omega) | exact RdI.at0 (hv _ (H42.right.right)) (by omega) | exact RdI.at1 (hv _ (H42.right.right)) (by omega))) (ltn rfl) ?_
                      refine wl_eff (e_lit_ints (k := .i32) (l := [_]) H42 Try.underlying22 Try.sizeOf21 Try.zeroValue21 rfl rfl rfl (by decide)) (ltn rfl) ?_
                      rintro l43 w43 H43
                      refine wl_eff (e_append_ints H43.f2 ((H43).row_rd) Try.underlying22 (show (Try.prog.info? 21).map (fun i => (i.zero, i.size, i.bytes)) = some (some (.int .i32 0), 1, 4) by kernel_rfl) rfl rfl (by first | omega | (simp only [List.length_append, List.length_nil, List.length_cons]; omega) | (simp; omega)) (by first | omega | (simp only [List.length_append, List.length_nil, List.length_cons]; omega) | (simp; omega))) (ltn rfl) ?_
                      rintro l44 w44 H44
                      try simp only [List.nil_append] at H44
                      refine wl_val (r_assign rfl) (ltn rfl) ?_
                      refine wl_nil ?_
                      refine wq_block_normal ?_
                      refine wq_block_normal ?_
                      refine wq_seq ?_
                      refine wc_region ?_
                      refine wl_val (r_move rfl) (ltn rfl) ?_
                      refine wl_val (r_as (r_add rfl rfl (by omega)) ((by first | exact (show Value.int .i64 ((k : Int) + 1) = .int .i64 ((k + 1 : Nat) : Int) from by rw [Int.natCast_add]; rfl) | exact (show Value.int .i64 (((k + 1 : Nat) : Int) + 1) = .int .i64 ((k + 1 + 1 : Nat) : Int) from by rw [Int.natCast_add (k + 1)]; rfl)))) (ltn rfl) ?_
                      refine wl_val (r_assign rfl) (ltn rfl) ?_
                      refine wl_nil ?_
                      refine wq_round (_, _, _) (Sub.cons rfl (Sub.cons rfl (Sub.cons rfl (Sub.nil _)))) (Sub.cons rfl (Sub.nil _)) (by (try dsimp only); exact by first | exact ⟨_, sr_end hsr hkl (by assumption) (by assumption), H44.f2.right.f2.right⟩ | exact ⟨_, sr_open hsr hkl (by assumption) (by omega), H44.f2.right.f2.right⟩ | exact ⟨_, sr_back1 hsr (by omega) (by assumption) (by assumption) hs0 hgo, H44.f2.right.f2.right⟩ | exact ⟨_, sr_back0 hsr (by omega) (by assumption) (by assumption) (by first | exact hgo | exact .inl (by omega) | (rw [show sv = 34 by omega, goes34 (by omega)]; exact .inr (decide_eq_true (in4.1 (by assumption))))), H44.f2.right.f2.right⟩ | exact ⟨_, sr_last hsr hkl (by omega) (by assumption) (by assumption), H44.f2.right.f2.right⟩ | exact ⟨_, sr_stay hsr hkl (by omega) (by omega) (by omega), H44.f2.right.f2.right⟩ | (exfalso; omega)) ?_
                      · (try dsimp only); omega
                    · (try simp only [beq_iff_eq, bne_iff_ne, ne_eq, decide_eq_true_eq, decide_eq_false_iff_not, beq_eq_false_iff_ne, bne_eq_false_iff_eq, Bool.not_eq_true', Bool.not_eq_false', Bool.not_eq_eq_eq_not, Bool.not_true, Bool.not_false, gt_iff_lt, ge_iff_le, Int.not_lt, Int.not_le] at h37)
                      
                      refine wc_skip ?_
                      refine wq_block_normal ?_
                      refine wq_block_normal ?_
                      refine wq_seq ?_
                      refine wc_region ?_
                      refine wl_val (r_move rfl) (ltn rfl) ?_
                      refine wl_val (r_as (r_add rfl rfl (by omega)) ((by first | exact (show Value.int .i64 ((k : Int) + 1) = .int .i64 ((k + 1 : Nat) : Int) from by rw [Int.natCast_add]; rfl) | exact (show Value.int .i64 (((k + 1 : Nat) : Int) + 1) = .int .i64 ((k + 1 + 1 : Nat) : Int) from by rw [Int.natCast_add (k + 1)]; rfl)))) (ltn rfl) ?_
                      refine wl_val (r_assign rfl) (ltn rfl) ?_
                      refine wl_nil ?_
                      refine wq_round (_, _, _) (Sub.cons rfl (Sub.cons rfl (Sub.cons rfl (Sub.nil _)))) (Sub.cons rfl (Sub.nil _)) (by (try dsimp only); exact by first | exact ⟨_, sr_end hsr hkl (by assumption) (by assumption), H42.f2.right⟩ | exact ⟨_, sr_open hsr hkl (by assumption) (by omega), H42.f2.right⟩ | exact ⟨_, sr_back1 hsr (by omega) (by assumption) (by assumption) hs0 hgo, H42.f2.right⟩ | exact ⟨_, sr_back0 hsr (by omega) (by assumption) (by assumption) (by first | exact hgo | exact .inl (by omega) | (rw [show sv = 34 by omega, goes34 (by omega)]; exact .inr (decide_eq_true (in4.1 (by assumption))))), H42.f2.right⟩ | exact ⟨_, sr_last hsr hkl (by omega) (by assumption) (by assumption), H42.f2.right⟩ | exact ⟨_, sr_stay hsr hkl (by omega) (by omega) (by omega), H42.f2.right⟩ | (exfalso; omega)) ?_
                      · (try dsimp only); omega
                  · (try simp only [beq_iff_eq, bne_iff_ne, ne_eq, decide_eq_true_eq, decide_eq_false_iff_not, beq_eq_false_iff_ne, bne_eq_false_iff_eq, Bool.not_eq_true', Bool.not_eq_false', Bool.not_eq_eq_eq_not, Bool.not_true, Bool.not_false, gt_iff_lt, ge_iff_le, Int.not_lt, Int.not_le] at h36)
                    try have hgo : sv = 0 ∨ goesL sv (l.drop (k + 1)) = true := by first | (exact .inl (by omega)) | (rw [show sv = 34 by omega, goes34 (by omega)]; exact .inr (decide_eq_true (in4.1 (by assumption)))) | (rw [show sv = 96 by omega, goes96 (by omega)]; exact .inr (decide_eq_true (in2.1 (by assumption))))
                    refine wc_skip ?_
                    refine wq_seq ?_
                    refine wc_seq ?_
                    refine wc_region ?_
                    refine wl_val (r_move rfl) (ltn rfl) ?_
                    refine wl_val (r_as (r_add rfl rfl (by omega)) (show Value.int .i64 ((k : Int) + 1) = .int .i64 ((k + 1 : Nat) : Int) by rw [Int.natCast_add]; rfl)) (ltn rfl) ?_
                    refine wl_val (r_move rfl) (ltn rfl) ?_
                    refine wl_val (r_len Try.underlying22 rfl) (ltn rfl) ?_
                    refine wl_val (r_lss rfl rfl) (ltn rfl) ?_
                    refine wl_nil ?_
                    refine wq_seq ?_
                    refine wc_cond rfl (fun h38 => ?_) (fun h38 => ?_)
                    · (try simp only [beq_iff_eq, bne_iff_ne, ne_eq, decide_eq_true_eq, decide_eq_false_iff_not, beq_eq_false_iff_ne, bne_eq_false_iff_eq, Bool.not_eq_true', Bool.not_eq_false', Bool.not_eq_eq_eq_not, Bool.not_true, Bool.not_false, gt_iff_lt, ge_iff_le, Int.not_lt, Int.not_le] at h38)
                      
                      refine wc_seq ?_
                      refine wc_region ?_
                      refine wl_val (r_move rfl) (ltn rfl) ?_
                      refine wl_val (r_as (r_add rfl rfl (by omega)) (show Value.int .i64 ((k : Int) + 1) = .int .i64 ((k + 1 : Nat) : Int) by rw [Int.natCast_add]; rfl)) (ltn rfl) ?_
                      refine wl_val (r_assign rfl) (ltn rfl) ?_
                      refine wl_nil ?_
                      refine wq_seq ?_
                      refine wc_region ?_
                      refine wl_val (r_move rfl) (ltn rfl) ?_
                      refine wl_val (r_move rfl) (ltn rfl) ?_
                      refine wl_val (r_move rfl) (ltn rfl) ?_
                      refine wl_val (r_index Try.underlying22 Try.sizeOf21 rfl rfl (by omega)) (ltn rfl) ?_
                      refine wl_val (r_load (plain_of Try.underlying21 rfl) rfl (by first | exact RdI.at1n (hv _ (HL.right)) (by omega) | exact RdI.at0 (hv _ (HL.right)) (by omega) | exact RdI.at1 (hv _ (HL.right)) (by omega))) (ltn rfl) ?_
                      refine wl_eff (e_lit_ints (k := .i32) (l := [_]) HL Try.underlying22 Try.sizeOf21 Try.zeroValue21 rfl rfl rfl (by decide)) (ltn rfl) ?_
                      rintro l45 w45 H45
                      refine wl_eff (e_append_ints H45.f2 ((H45).row_rd) Try.underlying22 (show (Try.prog.info? 21).map (fun i => (i.zero, i.size, i.bytes)) = some (some (.int .i32 0), 1, 4) by kernel_rfl) rfl rfl (by first | omega | (simp only [List.length_append, List.length_nil, List.length_cons]; omega) | (simp; omega)) (by first | omega | (simp only [List.length_append, List.length_nil, List.length_cons]; omega) | (simp; omega))) (ltn rfl) ?_
                      rintro l46 w46 H46
                      try simp only [List.nil_append] at H46
                      refine wl_val (r_assign rfl) (ltn rfl) ?_
                      refine wl_nil ?_
                      refine wq_block_normal ?_
                      refine wq_block_normal ?_
                      refine wq_seq ?_
                      refine wc_region ?_
                      refine wl_val (r_move rfl) (ltn rfl) ?_
                      refine wl_val (r_as (r_add rfl rfl (by omega)) ((by first | exact (show Value.int .i64 ((k : Int) + 1) = .int .i64 ((k + 1 : Nat) : Int) from by rw [Int.natCast_add]; rfl) | exact (show Value.int .i64 (((k + 1 : Nat) : Int) + 1) = .int .i64 ((k + 1 + 1 : Nat) : Int) from by rw [Int.natCast_add (k + 1)]; rfl)))) (ltn rfl) ?_
                      refine wl_val (r_assign rfl) (ltn rfl) ?_
                      refine wl_nil ?_
                      refine wq_round (_, _, _) (Sub.cons rfl (Sub.cons rfl (Sub.cons rfl (Sub.nil _)))) (Sub.cons rfl (Sub.nil _)) (by (try dsimp only); exact by first | exact ⟨_, sr_end hsr hkl (by assumption) (by assumption), H46.f2.right⟩ | exact ⟨_, sr_open hsr hkl (by assumption) (by omega), H46.f2.right⟩ | exact ⟨_, sr_back1 hsr (by omega) (by assumption) (by assumption) hs0 hgo, H46.f2.right⟩ | exact ⟨_, sr_back0 hsr (by omega) (by assumption) (by assumption) (by first | exact hgo | exact .inl (by omega) | (rw [show sv = 34 by omega, goes34 (by omega)]; exact .inr (decide_eq_true (in4.1 (by assumption))))), H46.f2.right⟩ | exact ⟨_, sr_last hsr hkl (by omega) (by assumption) (by assumption), H46.f2.right⟩ | exact ⟨_, sr_stay hsr hkl (by omega) (by omega) (by omega), H46.f2.right⟩ | (exfalso; omega)) ?_
                      · (try dsimp only); omega
                    · (try simp only [beq_iff_eq, bne_iff_ne, ne_eq, decide_eq_true_eq, decide_eq_false_iff_not, beq_eq_false_iff_ne, bne_eq_false_iff_eq, Bool.not_eq_true', Bool.not_eq_false', Bool.not_eq_eq_eq_not, Bool.not_true, Bool.not_false, gt_iff_lt, ge_iff_le, Int.not_lt, Int.not_le] at h38)
                      
                      refine wc_skip ?_
                      refine wq_block_normal ?_
                      refine wq_block_normal ?_
                      refine wq_seq ?_
                      refine wc_region ?_
                      refine wl_val (r_move rfl) (ltn rfl) ?_
                      refine wl_val (r_as (r_add rfl rfl (by omega)) ((by first | exact (show Value.int .i64 ((k : Int) + 1) = .int .i64 ((k + 1 : Nat) : Int) from by rw [Int.natCast_add]; rfl) | exact (show Value.int .i64 (((k + 1 : Nat) : Int) + 1) = .int .i64 ((k + 1 + 1 : Nat) : Int) from by rw [Int.natCast_add (k + 1)]; rfl)))) (ltn rfl) ?_
                      refine wl_val (r_assign rfl) (ltn rfl) ?_
                      refine wl_nil ?_
                      refine wq_round (_, _, _) (Sub.cons rfl (Sub.cons rfl (Sub.cons rfl (Sub.nil _)))) (Sub.cons rfl (Sub.nil _)) (by (try dsimp only); exact by first | exact ⟨_, sr_end hsr hkl (by assumption) (by assumption), HL⟩ | exact ⟨_, sr_open hsr hkl (by assumption) (by omega), HL⟩ | exact ⟨_, sr_back1 hsr (by omega) (by assumption) (by assumption) hs0 hgo, HL⟩ | exact ⟨_, sr_back0 hsr (by omega) (by assumption) (by assumption) (by first | exact hgo | exact .inl (by omega) | (rw [show sv = 34 by omega, goes34 (by omega)]; exact .inr (decide_eq_true (in4.1 (by assumption))))), HL⟩ | exact ⟨_, sr_last hsr hkl (by omega) (by assumption) (by assumption), HL⟩ | exact ⟨_, sr_stay hsr hkl (by omega) (by omega) (by omega), HL⟩ | (exfalso; omega)) ?_
                      · (try dsimp only); omega
                · (try simp only [beq_iff_eq, bne_iff_ne, ne_eq, decide_eq_true_eq, decide_eq_false_iff_not, beq_eq_false_iff_ne, bne_eq_false_iff_eq, Bool.not_eq_true', Bool.not_eq_false', Bool.not_eq_eq_eq_not, Bool.not_true, Bool.not_false, gt_iff_lt, ge_iff_le, Int.not_lt, Int.not_le] at h35)
                  refine wl_no rfl rfl rfl (ltn rfl) ?_
                  refine wl_no rfl rfl rfl (ltn rfl) ?_
                  refine wl_no rfl rfl rfl (ltn rfl) ?_
                  refine wl_no rfl rfl rfl (ltn rfl) ?_
                  refine wl_no rfl rfl rfl (ltn rfl) ?_
                  refine wl_no rfl rfl rfl (ltn rfl) ?_
                  refine wl_no rfl rfl rfl (ltn rfl) ?_
                  refine wl_yes rfl rfl ?_
                  refine wl_val (r_pick_f rfl rfl) (ltn rfl) ?_
                  refine wl_yes rfl rfl ?_
                  refine wl_val (r_pick_f rfl rfl) (ltn rfl) ?_
                  refine wl_val (r_pick_t rfl rfl) (ltn rfl) ?_
                  refine wl_val (r_assign rfl) (ltn rfl) ?_
                  refine wl_nil ?_
                  refine wq_seq ?_
                  refine wc_seq ?_
                  refine wc_seq ?_
                  refine wc_region ?_
                  refine wl_val (r_move rfl) (ltn rfl) ?_
                  refine wl_nil ?_
                  refine wq_seq ?_
                  refine wc_cond_f rfl ?_
                  refine wc_skip ?_
                  refine wq_seq ?_
                  refine wc_seq ?_
                  refine wc_region ?_
                  refine wl_val (r_move rfl) (ltn rfl) ?_
                  refine wl_val (r_as (r_add rfl rfl (by omega)) (show Value.int .i64 ((k : Int) + 1) = .int .i64 ((k + 1 : Nat) : Int) by rw [Int.natCast_add]; rfl)) (ltn rfl) ?_
                  refine wl_val (r_move rfl) (ltn rfl) ?_
                  refine wl_val (r_len Try.underlying22 rfl) (ltn rfl) ?_
                  refine wl_val (r_lss rfl rfl) (ltn rfl) ?_
                  refine wl_nil ?_
                  refine wq_seq ?_
                  refine wc_cond rfl (fun h39 => ?_) (fun h39 => ?_)
                  · (try simp only [beq_iff_eq, bne_iff_ne, ne_eq, decide_eq_true_eq, decide_eq_false_iff_not, beq_eq_false_iff_ne, bne_eq_false_iff_eq, Bool.not_eq_true', Bool.not_eq_false', Bool.not_eq_eq_eq_not, Bool.not_true, Bool.not_false, gt_iff_lt, ge_iff_le, Int.not_lt, Int.not_le] at h39)
                    
                    refine wc_seq ?_
                    refine wc_region ?_
                    refine wl_val (r_move rfl) (ltn rfl) ?_
                    refine wl_val (r_as (r_add rfl rfl (by omega)) (show Value.int .i64 ((k : Int) + 1) = .int .i64 ((k + 1 : Nat) : Int) by rw [Int.natCast_add]; rfl)) (ltn rfl) ?_
                    refine wl_val (r_assign rfl) (ltn rfl) ?_
                    refine wl_nil ?_
                    refine wq_seq ?_
                    refine wc_region ?_
                    refine wl_val (r_move rfl) (ltn rfl) ?_
                    refine wl_val (r_move rfl) (ltn rfl) ?_
                    refine wl_val (r_move rfl) (ltn rfl) ?_
                    refine wl_val (r_index Try.underlying22 Try.sizeOf21 rfl rfl (by omega)) (ltn rfl) ?_
                    refine wl_val (r_load (plain_of Try.underlying21 rfl) rfl (by first | exact RdI.at1n (hv _ (HL.right)) (by omega) | exact RdI.at0 (hv _ (HL.right)) (by omega) | exact RdI.at1 (hv _ (HL.right)) (by omega))) (ltn rfl) ?_
                    refine wl_eff (e_lit_ints (k := .i32) (l := [_]) HL Try.underlying22 Try.sizeOf21 Try.zeroValue21 rfl rfl rfl (by decide)) (ltn rfl) ?_
                    rintro l47 w47 H47
                    refine wl_eff (e_append_ints H47.f2 ((H47).row_rd) Try.underlying22 (show (Try.prog.info? 21).map (fun i => (i.zero, i.size, i.bytes)) = some (some (.int .i32 0), 1, 4) by kernel_rfl) rfl rfl (by first | omega | (simp only [List.length_append, List.length_nil, List.length_cons]; omega) | (simp; omega)) (by first | omega | (simp only [List.length_append, List.length_nil, List.length_cons]; omega) | (simp; omega))) (ltn rfl) ?_
                    rintro l48 w48 H48
                    try simp only [List.nil_append] at H48
                    refine wl_val (r_assign rfl) (ltn rfl) ?_
                    refine wl_nil ?_
                    refine wq_block_normal ?_
                    refine wq_block_normal ?_
                    refine wq_seq ?_
                    refine wc_region ?_
                    refine wl_val (r_move rfl) (ltn rfl) ?_
                    refine wl_val (r_as (r_add rfl rfl (by omega)) ((by first | exact (show Value.int .i64 ((k : Int) + 1) = .int .i64 ((k + 1 : Nat) : Int) from by rw [Int.natCast_add]; rfl) | exact (show Value.int .i64 (((k + 1 : Nat) : Int) + 1) = .int .i64 ((k + 1 + 1 : Nat) : Int) from by rw [Int.natCast_add (k + 1)]; rfl)))) (ltn rfl) ?_
                    refine wl_val (r_assign rfl) (ltn rfl) ?_
                    refine wl_nil ?_
                    refine wq_round (_, _, _) (Sub.cons rfl (Sub.cons rfl (Sub.cons rfl (Sub.nil _)))) (Sub.cons rfl (Sub.nil _)) (by (try dsimp only); exact by first | exact ⟨_, sr_end hsr hkl (by assumption) (by assumption), H48.f2.right⟩ | exact ⟨_, sr_open hsr hkl (by assumption) (by omega), H48.f2.right⟩ | exact ⟨_, sr_back1 hsr (by omega) (by assumption) (by assumption) hs0 hgo, H48.f2.right⟩ | exact ⟨_, sr_back0 hsr (by omega) (by assumption) (by assumption) (by first | exact hgo | exact .inl (by omega) | (rw [show sv = 34 by omega, goes34 (by omega)]; exact .inr (decide_eq_true (in4.1 (by assumption))))), H48.f2.right⟩ | exact ⟨_, sr_last hsr hkl (by omega) (by assumption) (by assumption), H48.f2.right⟩ | exact ⟨_, sr_stay hsr hkl (by omega) (by omega) (by omega), H48.f2.right⟩ | (exfalso; omega)) ?_
                    · (try dsimp only); omega
                  · (try simp only [beq_iff_eq, bne_iff_ne, ne_eq, decide_eq_true_eq, decide_eq_false_iff_not, beq_eq_false_iff_ne, bne_eq_false_iff_eq, Bool.not_eq_true', Bool.not_eq_false', Bool.not_eq_eq_eq_not, Bool.not_true, Bool.not_false, gt_iff_lt, ge_iff_le, Int.not_lt, Int.not_le] at h39)
                    
                    refine wc_skip ?_
                    refine wq_block_normal ?_
                    refine wq_block_normal ?_
                    refine wq_seq ?_
                    refine wc_region ?_
                    refine wl_val (r_move rfl) (ltn rfl) ?_
                    refine wl_val (r_as (r_add rfl rfl (by omega)) ((by first | exact (show Value.int .i64 ((k : Int) + 1) = .int .i64 ((k + 1 : Nat) : Int) from by rw [Int.natCast_add]; rfl) | exact (show Value.int .i64 (((k + 1 : Nat) : Int) + 1) = .int .i64 ((k + 1 + 1 : Nat) : Int) from by rw [Int.natCast_add (k + 1)]; rfl)))) (ltn rfl) ?_
                    refine wl_val (r_assign rfl) (ltn rfl) ?_
                    refine wl_nil ?_
                    refine wq_round (_, _, _) (Sub.cons rfl (Sub.cons rfl (Sub.cons rfl (Sub.nil _)))) (Sub.cons rfl (Sub.nil _)) (by (try dsimp only); exact by first | exact ⟨_, sr_end hsr hkl (by assumption) (by assumption), HL⟩ | exact ⟨_, sr_open hsr hkl (by assumption) (by omega), HL⟩ | exact ⟨_, sr_back1 hsr (by omega) (by assumption) (by assumption) hs0 hgo, HL⟩ | exact ⟨_, sr_back0 hsr (by omega) (by assumption) (by assumption) (by first | exact hgo | exact .inl (by omega) | (rw [show sv = 34 by omega, goes34 (by omega)]; exact .inr (decide_eq_true (in4.1 (by assumption))))), HL⟩ | exact ⟨_, sr_last hsr hkl (by omega) (by assumption) (by assumption), HL⟩ | exact ⟨_, sr_stay hsr hkl (by omega) (by omega) (by omega), HL⟩ | (exfalso; omega)) ?_
                    · (try dsimp only); omega
            · (try simp only [beq_iff_eq, bne_iff_ne, ne_eq, decide_eq_true_eq, decide_eq_false_iff_not, beq_eq_false_iff_ne, bne_eq_false_iff_eq, Bool.not_eq_true', Bool.not_eq_false', Bool.not_eq_eq_eq_not, Bool.not_true, Bool.not_false, gt_iff_lt, ge_iff_le, Int.not_lt, Int.not_le] at h32)
              refine wl_no rfl rfl rfl (ltn rfl) ?_
              refine wl_no rfl rfl rfl (ltn rfl) ?_
              refine wl_no rfl rfl rfl (ltn rfl) ?_
              refine wl_no rfl rfl rfl (ltn rfl) ?_
              refine wl_no rfl rfl rfl (ltn rfl) ?_
              refine wl_no rfl rfl rfl (ltn rfl) ?_
              refine wl_no rfl rfl rfl (ltn rfl) ?_
              refine wl_yes rfl rfl ?_
              refine wl_val (r_pick_f rfl rfl) (ltn rfl) ?_
              refine wl_yes rfl rfl ?_
              refine wl_val (r_move rfl) (ltn rfl) ?_
              refine wl_yes rfl rfl ?_
              refine wl_val (r_move rfl) (ltn rfl) ?_
              refine wl_yes rfl rfl ?_
              refine wl_val (r_eql rfl rfl) (ltn rfl) ?_
              refine wl_yes rfl rfl ?_
              refine wl_split rfl (ltn rfl) (fun h40 => ?_) (fun h40 => ?_)
              · (try simp only [beq_iff_eq, bne_iff_ne, ne_eq, decide_eq_true_eq, decide_eq_false_iff_not, beq_eq_false_iff_ne, bne_eq_false_iff_eq, Bool.not_eq_true', Bool.not_eq_false', Bool.not_eq_eq_eq_not, Bool.not_true, Bool.not_false, gt_iff_lt, ge_iff_le, Int.not_lt, Int.not_le] at h40)
                refine wl_yes rfl rfl ?_
                refine wl_val (r_move rfl) (ltn rfl) ?_
                refine wl_yes rfl rfl ?_
                refine wl_val (r_move rfl) (ltn rfl) ?_
                refine wl_yes rfl rfl ?_
                refine wl_val (r_as (r_add rfl rfl (by omega)) (show Value.int .i64 ((k : Int) + 1) = .int .i64 ((k + 1 : Nat) : Int) by rw [Int.natCast_add]; rfl)) (ltn rfl) ?_
                refine wl_yes rfl rfl ?_
                refine wl_val (r_index Try.underlying22 Try.sizeOf21 rfl rfl (by omega)) (ltn rfl) ?_
                refine wl_yes rfl rfl ?_
                refine wl_val (r_load (plain_of Try.underlying21 rfl) rfl (by first | exact RdI.at1n (hv _ (HL.right)) (by omega) | exact RdI.at0 (hv _ (HL.right)) (by omega) | exact RdI.at1 (hv _ (HL.right)) (by omega))) (ltn rfl) ?_
                refine wl_yes rfl rfl ?_
                refine wl_eff (e_call (r_call rfl Try.func38 rfl rfl) (ref_in_ret (by decide))) (ltn rfl) ?_
                rintro _ _ ⟨rfl, rfl⟩
                refine wl_yes rfl rfl ?_
                refine wl_val (r_not rfl) (ltn rfl) ?_
                refine wl_yes rfl rfl ?_
                refine wl_val (r_pick_t rfl rfl) (ltn rfl) ?_
                refine wl_yes rfl rfl ?_
                refine wl_val (r_pick_f rfl rfl) (ltn rfl) ?_
                refine wl_val (r_pick_t rfl rfl) (ltn rfl) ?_
                refine wl_val (r_assign rfl) (ltn rfl) ?_
                refine wl_nil ?_
                refine wq_seq ?_
                refine wc_seq ?_
                refine wc_seq ?_
                refine wc_region ?_
                refine wl_val (r_move rfl) (ltn rfl) ?_
                refine wl_nil ?_
                refine wq_seq ?_
                refine wc_cond rfl (fun h41 => ?_) (fun h41 => ?_)
                · (try simp only [beq_iff_eq, bne_iff_ne, ne_eq, decide_eq_true_eq, decide_eq_false_iff_not, beq_eq_false_iff_ne, bne_eq_false_iff_eq, Bool.not_eq_true', Bool.not_eq_false', Bool.not_eq_eq_eq_not, Bool.not_true, Bool.not_false, gt_iff_lt, ge_iff_le, Int.not_lt, Int.not_le] at h41)
                  
                  have hs0 : ¬ sv = 0 := by omega
                  have hgo : goesL sv (l.drop (k + 1)) = false := by first | (rw [show sv = 34 by omega, goes34 (by omega)]; exact decide_eq_false (fun q => absurd (in4.2 q) (by assumption))) | (rw [show sv = 96 by omega, goes96 (by omega)]; exact decide_eq_false (fun q => absurd (in2.2 q) (by assumption)))
                  refine wc_region ?_
                  refine wl_val (r_move rfl) (ltn rfl) ?_
                  refine wl_val (r_move rfl) (ltn rfl) ?_
                  refine wl_eff (e_lit_ints (k := .i32) (l := [_]) HL Try.underlying22 Try.sizeOf21 Try.zeroValue21 rfl rfl rfl (by decide)) (ltn rfl) ?_
                  rintro l50 w50 H50
                  refine wl_eff (e_append_ints H50.f2 ((H50).row_rd) Try.underlying22 (show (Try.prog.info? 21).map (fun i => (i.zero, i.size, i.bytes)) = some (some (.int .i32 0), 1, 4) by kernel_rfl) rfl rfl (by first | omega | (simp only [List.length_append, List.length_nil, List.length_cons]; omega) | (simp; omega)) (by first | omega | (simp only [List.length_append, List.length_nil, List.length_cons]; omega) | (simp; omega))) (ltn rfl) ?_
                  rintro l51 w51 H51
                  try simp only [List.nil_append] at H51
                  refine wl_val (r_assign rfl) (ltn rfl) ?_
                  refine wl_nil ?_
                  refine wq_seq ?_
                  refine wc_seq ?_
                  refine wc_region ?_
                  refine wl_val (r_move rfl) (ltn rfl) ?_
                  refine wl_val (r_as (r_add rfl rfl (by omega)) (show Value.int .i64 ((k : Int) + 1) = .int .i64 ((k + 1 : Nat) : Int) by rw [Int.natCast_add]; rfl)) (ltn rfl) ?_
                  refine wl_val (r_move rfl) (ltn rfl) ?_
                  refine wl_val (r_len Try.underlying22 rfl) (ltn rfl) ?_
                  refine wl_val (r_lss rfl rfl) (ltn rfl) ?_
                  refine wl_nil ?_
                  refine wq_seq ?_
                  refine wc_cond rfl (fun h42 => ?_) (fun h42 => ?_)
                  · (try simp only [beq_iff_eq, bne_iff_ne, ne_eq, decide_eq_true_eq, decide_eq_false_iff_not, beq_eq_false_iff_ne, bne_eq_false_iff_eq, Bool.not_eq_true', Bool.not_eq_false', Bool.not_eq_eq_eq_not, Bool.not_true, Bool.not_false, gt_iff_lt, ge_iff_le, Int.not_lt, Int.not_le] at h42)
                    
                    refine wc_seq ?_
                    refine wc_region ?_
                    refine wl_val (r_move rfl) (ltn rfl) ?_
                    refine wl_val (r_as (r_add rfl rfl (by omega)) (show Value.int .i64 ((k : Int) + 1) = .int .i64 ((k + 1 : Nat) : Int) by rw [Int.natCast_add]; rfl)) (ltn rfl) ?_
                    refine wl_val (r_assign rfl) (ltn rfl) ?_
                    refine wl_nil ?_
                    refine wq_seq ?_
                    refine wc_region ?_
                    refine wl_val (r_move rfl) (ltn rfl) ?_
                    refine wl_val (r_move rfl) (ltn rfl) ?_
                    refine wl_val (r_move rfl) (ltn rfl) ?_
                    refine wl_val (r_index Try.underlying22 Try.sizeOf21 rfl rfl (by omega)) (ltn rfl) ?_
                    refine wl_val (r_load (plain_of Try.underlying21 rfl) rfl (by first | exact RdI.at1n (hv _ (H51.right.right)) (by omega) | exact RdI.at0 (hv _ (H51.right.right)) (by omega) | exact RdI.at1 (hv _ (H51.right.right)) (by omega))) (ltn rfl) ?_
                    refine wl_eff (e_lit_ints (k := .i32) (l := [_]) H51 Try.underlying22 Try.sizeOf21 Try.zeroValue21 rfl rfl rfl (by decide)) (ltn rfl) ?_
                    rintro l52 w52 H52
                    refine wl_eff (e_append_ints H52.f2 ((H52).row_rd) Try.underlying22 (show (Try.prog.info? 21).map (fun i => (i.zero, i.size, i.bytes)) = some (some (.int .i32 0), 1, 4) by kernel_rfl) rfl rfl (by first | omega | (simp only [List.length_append, List.length_nil, List.length_cons]; omega) | (simp; omega)) (by first | omega | (simp only [List.length_append, List.length_nil, List.length_cons]; omega) | (simp; omega))) (ltn rfl) ?_
                    rintro l53 w53 H53
                    try simp only [List.nil_append] at H53
                    refine wl_val (r_assign rfl) (ltn rfl) ?_
                    refine wl_nil ?_
                    refine wq_block_normal ?_
                    refine wq_block_normal ?_
                    refine wq_seq ?_
                    refine wc_region ?_
                    refine wl_val (r_move rfl) (ltn rfl) ?_
                    refine wl_val (r_as (r_add rfl rfl (by omega)) ((by first | exact (show Value.int .i64 ((k : Int) + 1) = .int .i64 ((k + 1 : Nat) : Int) from by rw [Int.natCast_add]; rfl) | exact (show Value.int .i64 (((k + 1 : Nat) : Int) + 1) = .int .i64 ((k + 1 + 1 : Nat) : Int) from by rw [Int.natCast_add (k + 1)]; rfl)))) (ltn rfl) ?_
                    refine wl_val (r_assign rfl) (ltn rfl) ?_
                    refine wl_nil ?_
                    refine wq_round (_, _, _) (Sub.cons rfl (Sub.cons rfl (Sub.cons rfl (Sub.nil _)))) (Sub.cons rfl (Sub.nil _)) (by (try dsimp only); exact by first | exact ⟨_, sr_end hsr hkl (by assumption) (by assumption), H53.f2.right.f2.right⟩ | exact ⟨_, sr_open hsr hkl (by assumption) (by omega), H53.f2.right.f2.right⟩ | exact ⟨_, sr_back1 hsr (by omega) (by assumption) (by assumption) hs0 hgo, H53.f2.right.f2.right⟩ | exact ⟨_, sr_back0 hsr (by omega) (by assumption) (by assumption) (by first | exact hgo | exact .inl (by omega) | (rw [show sv = 34 by omega, goes34 (by omega)]; exact .inr (decide_eq_true (in4.1 (by assumption))))), H53.f2.right.f2.right⟩ | exact ⟨_, sr_last hsr hkl (by omega) (by assumption) (by assumption), H53.f2.right.f2.right⟩ | exact ⟨_, sr_stay hsr hkl (by omega) (by omega) (by omega), H53.f2.right.f2.right⟩ | (exfalso; omega)) ?_
                    · (try dsimp only); omega
                  · (try simp only [beq_iff_eq, bne_iff_ne, ne_eq, decide_eq_true_eq, decide_eq_false_iff_not, beq_eq_false_iff_ne, bne_eq_false_iff_eq, Bool.not_eq_true', Bool.not_eq_false', Bool.not_eq_eq_eq_not, Bool.not_true, Bool.not_false, gt_iff_lt, ge_iff_le, Int.not_lt, Int.not_le] at h42)
                    
                    refine wc_skip ?_
                    refine wq_block_normal ?_
                    refine wq_block_normal ?_
                    refine wq_seq ?_
                    refine wc_region ?_
                    refine wl_val (r_move rfl) (ltn rfl) ?_
                    refine wl_val (r_as (r_add rfl rfl (by omega)) ((by first | exact (show Value.int .i64 ((k : Int) + 1) = .int .i64 ((k + 1 : Nat) : Int) from by rw [Int.natCast_add]; rfl) | exact (show Value.int .i64 (((k + 1 : Nat) : Int) + 1) = .int .i64 ((k + 1 + 1 : Nat) : Int) from by rw [Int.natCast_add (k + 1)]; rfl)))) (ltn rfl) ?_
                    refine wl_val (r_assign rfl) (ltn rfl) ?_
                    refine wl_nil ?_
                    refine wq_round (_, _, _) (Sub.cons rfl (Sub.cons rfl (Sub.cons rfl (Sub.nil _)))) (Sub.cons rfl (Sub.nil _)) (by (try dsimp only); exact by first | exact ⟨_, sr_end hsr hkl (by assumption) (by assumption), H51.f2.right⟩ | exact ⟨_, sr_open hsr hkl (by assumption) (by omega), H51.f2.right⟩ | exact ⟨_, sr_back1 hsr (by omega) (by assumption) (by assumption) hs0 hgo, H51.f2.right⟩ | exact ⟨_, sr_back0 hsr (by omega) (by assumption) (by assumption) (by first | exact hgo | exact .inl (by omega) | (rw [show sv = 34 by omega, goes34 (by omega)]; exact .inr (decide_eq_true (in4.1 (by assumption))))), H51.f2.right⟩ | exact ⟨_, sr_last hsr hkl (by omega) (by assumption) (by assumption), H51.f2.right⟩ | exact ⟨_, sr_stay hsr hkl (by omega) (by omega) (by omega), H51.f2.right⟩ | (exfalso; omega)) ?_
                    · (try dsimp only); omega
                · (try simp only [beq_iff_eq, bne_iff_ne, ne_eq, decide_eq_true_eq, decide_eq_false_iff_not, beq_eq_false_iff_ne, bne_eq_false_iff_eq, Bool.not_eq_true', Bool.not_eq_false', Bool.not_eq_eq_eq_not, Bool.not_true, Bool.not_false, gt_iff_lt, ge_iff_le, Int.not_lt, Int.not_le] at h41)
                  try have hgo : sv = 0 ∨ goesL sv (l.drop (k + 1)) = true := by first | (exact .inl (by omega)) | (rw [show sv = 34 by omega, goes34 (by omega)]; exact .inr (decide_eq_true (in4.1 (by assumption)))) | (rw [show sv = 96 by omega, goes96 (by omega)]; exact .inr (decide_eq_true (in2.1 (by assumption))))
                  refine wc_skip ?_
                  refine wq_seq ?_
                  refine wc_seq ?_
                  refine wc_region ?_
                  refine wl_val (r_move rfl) (ltn rfl) ?_
                  refine wl_val (r_as (r_add rfl rfl (by omega)) (show Value.int .i64 ((k : Int) + 1) = .int .i64 ((k + 1 : Nat) : Int) by rw [Int.natCast_add]; rfl)) (ltn rfl) ?_
                  refine wl_val (r_move rfl) (ltn rfl) ?_
                  refine wl_val (r_len Try.underlying22 rfl) (ltn rfl) ?_
                  refine wl_val (r_lss rfl rfl) (ltn rfl) ?_
                  refine wl_nil ?_
                  refine wq_seq ?_
                  refine wc_cond rfl (fun h43 => ?_) (fun h43 => ?_)
                  · (try simp only [beq_iff_eq, bne_iff_ne, ne_eq, decide_eq_true_eq, decide_eq_false_iff_not, beq_eq_false_iff_ne, bne_eq_false_iff_eq, Bool.not_eq_true', Bool.not_eq_false', Bool.not_eq_eq_eq_not, Bool.not_true, Bool.not_false, gt_iff_lt, ge_iff_le, Int.not_lt, Int.not_le] at h43)
                    
                    refine wc_seq ?_
                    refine wc_region ?_
                    refine wl_val (r_move rfl) (ltn rfl) ?_
                    refine wl_val (r_as (r_add rfl rfl (by omega)) (show Value.int .i64 ((k : Int) + 1) = .int .i64 ((k + 1 : Nat) : Int) by rw [Int.natCast_add]; rfl)) (ltn rfl) ?_
                    refine wl_val (r_assign rfl) (ltn rfl) ?_
                    refine wl_nil ?_
                    refine wq_seq ?_
                    refine wc_region ?_
                    refine wl_val (r_move rfl) (ltn rfl) ?_
                    refine wl_val (r_move rfl) (ltn rfl) ?_
                    refine wl_val (r_move rfl) (ltn rfl) ?_
                    refine wl_val (r_index Try.underlying22 Try.sizeOf21 rfl rfl (by omega)) (ltn rfl) ?_
                    refine wl_val (r_load (plain_of Try.underlying21 rfl) rfl (by first | exact RdI.at1n (hv _ (HL.right)) (by omega) | exact RdI.at0 (hv _ (HL.right)) (by omega) | exact RdI.at1 (hv _ (HL.right)) (by omega))) (ltn rfl) ?_
                    refine wl_eff (e_lit_ints (k := .i32) (l := [_]) HL Try.underlying22 Try.sizeOf21 Try.zeroValue21 rfl rfl rfl (by decide)) (ltn rfl) ?_
                    rintro l54 w54 H54
                    refine wl_eff (e_append_ints H54.f2 ((H54).row_rd) Try.underlying22 (show (Try.prog.info? 21).map (fun i => (i.zero, i.size, i.bytes)) = some (some (.int .i32 0), 1, 4) by kernel_rfl) rfl rfl (by first | omega | (simp only [List.length_append, List.length_nil, List.length_cons]; omega) | (simp; omega)) (by first | omega | (simp only [List.length_append, List.length_nil, List.length_cons]; omega) | (simp; omega))) (ltn rfl) ?_
                    rintro l55 w55 H55
                    try simp only [List.nil_append] at H55
                    refine wl_val (r_assign rfl) (ltn rfl) ?_
                    refine wl_nil ?_
                    refine wq_block_normal ?_
                    refine wq_block_normal ?_
                    refine wq_seq ?_
                    refine wc_region ?_
                    refine wl_val (r_move rfl) (ltn rfl) ?_
                    refine wl_val (r_as (r_add rfl rfl (by omega)) ((by first | exact (show Value.int .i64 ((k : Int) + 1) = .int .i64 ((k + 1 : Nat) : Int) from by rw [Int.natCast_add]; rfl) | exact (show Value.int .i64 (((k + 1 : Nat) : Int) + 1) = .int .i64 ((k + 1 + 1 : Nat) : Int) from by rw [Int.natCast_add (k + 1)]; rfl)))) (ltn rfl) ?_
                    refine wl_val (r_assign rfl) (ltn rfl) ?_
                    refine wl_nil ?_
                    refine wq_round (_, _, _) (Sub.cons rfl (Sub.cons rfl (Sub.cons rfl (Sub.nil _)))) (Sub.cons rfl (Sub.nil _)) (by (try dsimp only); exact by first | exact ⟨_, sr_end hsr hkl (by assumption) (by assumption), H55.f2.right⟩ | exact ⟨_, sr_open hsr hkl (by assumption) (by omega), H55.f2.right⟩ | exact ⟨_, sr_back1 hsr (by omega) (by assumption) (by assumption) hs0 hgo, H55.f2.right⟩ | exact ⟨_, sr_back0 hsr (by omega) (by assumption) (by assumption) (by first | exact hgo | exact .inl (by omega) | (rw [show sv = 34 by omega, goes34 (by omega)]; exact .inr (decide_eq_true (in4.1 (by assumption))))), H55.f2.right⟩ | exact ⟨_, sr_last hsr hkl (by omega) (by assumption) (by assumption), H55.f2.right⟩ | exact ⟨_, sr_stay hsr hkl (by omega) (by omega) (by omega), H55.f2.right⟩ | (exfalso; omega)) ?_
                    · (try dsimp only); omega
                  · (try simp only [beq_iff_eq, bne_iff_ne, ne_eq, decide_eq_true_eq, decide_eq_false_iff_not, beq_eq_false_iff_ne, bne_eq_false_iff_eq, Bool.not_eq_true', Bool.not_eq_false', Bool.not_eq_eq_eq_not, Bool.not_true, Bool.not_false, gt_iff_lt, ge_iff_le, Int.not_lt, Int.not_le] at h43)
                    
                    refine wc_skip ?_
                    refine wq_block_normal ?_
                    refine wq_block_normal ?_
                    refine wq_seq ?_
                    refine wc_region ?_
                    refine wl_val (r_move rfl) (ltn rfl) ?_
                    refine wl_val (r_as (r_add rfl rfl (by omega)) ((by first | exact (show Value.int .i64 ((k : Int) + 1) = .int .i64 ((k + 1 : Nat) : Int) from by rw [Int.natCast_add]; rfl) | exact (show Value.int .i64 (((k + 1 : Nat) : Int) + 1) = .int .i64 ((k + 1 + 1 : Nat) : Int) from by rw [Int.natCast_add (k + 1)]; rfl)))) (ltn rfl) ?_
                    refine wl_val (r_assign rfl) (ltn rfl) ?_
                    refine wl_nil ?_
                    refine wq_round (_, _, _) (Sub.cons rfl (Sub.cons rfl (Sub.cons rfl (Sub.nil _)))) (Sub.cons rfl (Sub.nil _)) (by (try dsimp only); exact by first | exact ⟨_, sr_end hsr hkl (by assumption) (by assumption), HL⟩ | exact ⟨_, sr_open hsr hkl (by assumption) (by omega), HL⟩ | exact ⟨_, sr_back1 hsr (by omega) (by assumption) (by assumption) hs0 hgo, HL⟩ | exact ⟨_, sr_back0 hsr (by omega) (by assumption) (by assumption) (by first | exact hgo | exact .inl (by omega) | (rw [show sv = 34 by omega, goes34 (by omega)]; exact .inr (decide_eq_true (in4.1 (by assumption))))), HL⟩ | exact ⟨_, sr_last hsr hkl (by omega) (by assumption) (by assumption), HL⟩ | exact ⟨_, sr_stay hsr hkl (by omega) (by omega) (by omega), HL⟩ | (exfalso; omega)) ?_
                    · (try dsimp only); omega
              · (try simp only [beq_iff_eq, bne_iff_ne, ne_eq, decide_eq_true_eq, decide_eq_false_iff_not, beq_eq_false_iff_ne, bne_eq_false_iff_eq, Bool.not_eq_true', Bool.not_eq_false', Bool.not_eq_eq_eq_not, Bool.not_true, Bool.not_false, gt_iff_lt, ge_iff_le, Int.not_lt, Int.not_le] at h40)
                refine wl_no rfl rfl rfl (ltn rfl) ?_
                refine wl_no rfl rfl rfl (ltn rfl) ?_
                refine wl_no rfl rfl rfl (ltn rfl) ?_
                refine wl_no rfl rfl rfl (ltn rfl) ?_
                refine wl_no rfl rfl rfl (ltn rfl) ?_
                refine wl_no rfl rfl rfl (ltn rfl) ?_
                refine wl_no rfl rfl rfl (ltn rfl) ?_
                refine wl_yes rfl rfl ?_
                refine wl_val (r_pick_f rfl rfl) (ltn rfl) ?_
                refine wl_yes rfl rfl ?_
                refine wl_val (r_pick_f rfl rfl) (ltn rfl) ?_
                refine wl_val (r_pick_t rfl rfl) (ltn rfl) ?_
                refine wl_val (r_assign rfl) (ltn rfl) ?_
                refine wl_nil ?_
                refine wq_seq ?_
                refine wc_seq ?_
                refine wc_seq ?_
                refine wc_region ?_
                refine wl_val (r_move rfl) (ltn rfl) ?_
                refine wl_nil ?_
                refine wq_seq ?_
                refine wc_cond_f rfl ?_
                refine wc_skip ?_
                refine wq_seq ?_
                refine wc_seq ?_
                refine wc_region ?_
                refine wl_val (r_move rfl) (ltn rfl) ?_
                refine wl_val (r_as (r_add rfl rfl (by omega)) (show Value.int .i64 ((k : Int) + 1) = .int .i64 ((k + 1 : Nat) : Int) by rw [Int.natCast_add]; rfl)) (ltn rfl) ?_
                refine wl_val (r_move rfl) (ltn rfl) ?_
                refine wl_val (r_len Try.underlying22 rfl) (ltn rfl) ?_
                refine wl_val (r_lss rfl rfl) (ltn rfl) ?_
                refine wl_nil ?_
                refine wq_seq ?_
                refine wc_cond rfl (fun h44 => ?_) (fun h44 => ?_)
                · (try simp only [beq_iff_eq, bne_iff_ne, ne_eq, decide_eq_true_eq, decide_eq_false_iff_not, beq_eq_false_iff_ne, bne_eq_false_iff_eq, Bool.not_eq_true', Bool.not_eq_false', Bool.not_eq_eq_eq_not, Bool.not_true, Bool.not_false, gt_iff_lt, ge_iff_le, Int.not_lt, Int.not_le] at h44)
                  
                  refine wc_seq ?_
                  refine wc_region ?_
                  refine wl_val (r_move rfl) (ltn rfl) ?_
                  refine wl_val (r_as (r_add rfl rfl (by omega)) (show Value.int .i64 ((k : Int) + 1) = .int .i64 ((k + 1 : Nat) : Int) by rw [Int.natCast_add]; rfl)) (ltn rfl) ?_
                  refine wl_val (r_assign rfl) (ltn rfl) ?_
                  refine wl_nil ?_
                  refine wq_seq ?_
                  refine wc_region ?_
                  refine wl_val (r_move rfl) (ltn rfl) ?_
                  refine wl_val (r_move rfl) (ltn rfl) ?_
                  refine wl_val (r_move rfl) (ltn rfl) ?_
                  refine wl_val (r_index Try.underlying22 Try.sizeOf21 rfl rfl (by omega)) (ltn rfl) ?_
                  refine wl_val (r_load (plain_of Try.underlying21 rfl) rfl (by first | exact RdI.at1n (hv _ (HL.right)) (by omega) | exact RdI.at0 (hv _ (HL.right)) (by omega) | exact RdI.at1 (hv _ (HL.right)) (by omega))) (ltn rfl) ?_
                  refine wl_eff (e_lit_ints (k := .i32) (l := [_]) HL Try.underlying22 Try.sizeOf21 Try.zeroValue21 rfl rfl rfl (by decide)) (ltn rfl) ?_
                  rintro l56 w56 H56
                  refine wl_eff (e_append_ints H56.f2 ((H56).row_rd) Try.underlying22 (show (Try.prog.info? 21).map (fun i => (i.zero, i.size, i.bytes)) = some (some (.int .i32 0), 1, 4) by kernel_rfl) rfl rfl (by first | omega | (simp only [List.length_append, List.length_nil, List.length_cons]; omega) | (simp; omega)) (by first | omega | (simp only [List.length_append, List.length_nil, List.length_cons]; omega) | (simp; omega))) (ltn rfl) ?_
                  rintro l57 w57 H57
                  try simp only [List.nil_append] at H57
                  refine wl_val (r_assign rfl) (ltn rfl) ?_
                  refine wl_nil ?_
                  refine wq_block_normal ?_
                  refine wq_block_normal ?_
                  refine wq_seq ?_
                  refine wc_region ?_
                  refine wl_val (r_move rfl) (ltn rfl) ?_
                  refine wl_val (r_as (r_add rfl rfl (by omega)) ((by first | exact (show Value.int .i64 ((k : Int) + 1) = .int .i64 ((k + 1 : Nat) : Int) from by rw [Int.natCast_add]; rfl) | exact (show Value.int .i64 (((k + 1 : Nat) : Int) + 1) = .int .i64 ((k + 1 + 1 : Nat) : Int) from by rw [Int.natCast_add (k + 1)]; rfl)))) (ltn rfl) ?_
                  refine wl_val (r_assign rfl) (ltn rfl) ?_
                  refine wl_nil ?_
                  refine wq_round (_, _, _) (Sub.cons rfl (Sub.cons rfl (Sub.cons rfl (Sub.nil _)))) (Sub.cons rfl (Sub.nil _)) (by (try dsimp only); exact by first | exact ⟨_, sr_end hsr hkl (by assumption) (by assumption), H57.f2.right⟩ | exact ⟨_, sr_open hsr hkl (by assumption) (by omega), H57.f2.right⟩ | exact ⟨_, sr_back1 hsr (by omega) (by assumption) (by assumption) hs0 hgo, H57.f2.right⟩ | exact ⟨_, sr_back0 hsr (by omega) (by assumption) (by assumption) (by first | exact hgo | exact .inl (by omega) | (rw [show sv = 34 by omega, goes34 (by omega)]; exact .inr (decide_eq_true (in4.1 (by assumption))))), H57.f2.right⟩ | exact ⟨_, sr_last hsr hkl (by omega) (by assumption) (by assumption), H57.f2.right⟩ | exact ⟨_, sr_stay hsr hkl (by omega) (by omega) (by omega), H57.f2.right⟩ | (exfalso; omega)) ?_
                  · (try dsimp only); omega
                · (try simp only [beq_iff_eq, bne_iff_ne, ne_eq, decide_eq_true_eq, decide_eq_false_iff_not, beq_eq_false_iff_ne, bne_eq_false_iff_eq, Bool.not_eq_true', Bool.not_eq_false', Bool.not_eq_eq_eq_not, Bool.not_true, Bool.not_false, gt_iff_lt, ge_iff_le, Int.not_lt, Int.not_le] at h44)
                  
                  refine wc_skip ?_
                  refine wq_block_normal ?_
                  refine wq_block_normal ?_
                  refine wq_seq ?_
                  refine wc_region ?_
                  refine wl_val (r_move rfl) (ltn rfl) ?_
                  refine wl_val (r_as (r_add rfl rfl (by omega)) ((by first | exact (show Value.int .i64 ((k : Int) + 1) = .int .i64 ((k + 1 : Nat) : Int) from by rw [Int.natCast_add]; rfl) | exact (show Value.int .i64 (((k + 1 : Nat) : Int) + 1) = .int .i64 ((k + 1 + 1 : Nat) : Int) from by rw [Int.natCast_add (k + 1)]; rfl)))) (ltn rfl) ?_
                  refine wl_val (r_assign rfl) (ltn rfl) ?_
                  refine wl_nil ?_
                  refine wq_round (_, _, _) (Sub.cons rfl (Sub.cons rfl (Sub.cons rfl (Sub.nil _)))) (Sub.cons rfl (Sub.nil _)) (by (try dsimp only); exact by first | exact ⟨_, sr_end hsr hkl (by assumption) (by assumption), HL⟩ | exact ⟨_, sr_open hsr hkl (by assumption) (by omega), HL⟩ | exact ⟨_, sr_back1 hsr (by omega) (by assumption) (by assumption) hs0 hgo, HL⟩ | exact ⟨_, sr_back0 hsr (by omega) (by assumption) (by assumption) (by first | exact hgo | exact .inl (by omega) | (rw [show sv = 34 by omega, goes34 (by omega)]; exact .inr (decide_eq_true (in4.1 (by assumption))))), HL⟩ | exact ⟨_, sr_last hsr hkl (by omega) (by assumption) (by assumption), HL⟩ | exact ⟨_, sr_stay hsr hkl (by omega) (by omega) (by omega), HL⟩ | (exfalso; omega)) ?_
                  · (try dsimp only); omega
          · (try simp only [beq_iff_eq, bne_iff_ne, ne_eq, decide_eq_true_eq, decide_eq_false_iff_not, beq_eq_false_iff_ne, bne_eq_false_iff_eq, Bool.not_eq_true', Bool.not_eq_false', Bool.not_eq_eq_eq_not, Bool.not_true, Bool.not_false, gt_iff_lt, ge_iff_le, Int.not_lt, Int.not_le] at h31)
            refine wl_no rfl rfl rfl (ltn rfl) ?_
            refine wl_no rfl rfl rfl (ltn rfl) ?_
            refine wl_no rfl rfl rfl (ltn rfl) ?_
            refine wl_nou rfl rfl (ltn rfl) ?_
            refine wl_nou rfl rfl (ltn rfl) ?_
            refine wl_nou rfl rfl (ltn rfl) ?_
            refine wl_nou rfl rfl (ltn rfl) ?_
            refine wl_nou rfl rfl (ltn rfl) ?_
            refine wl_nou rfl rfl (ltn rfl) ?_
            refine wl_nou rfl rfl (ltn rfl) ?_
            refine wl_no rfl rfl rfl (ltn rfl) ?_
            refine wl_no rfl rfl rfl (ltn rfl) ?_
            refine wl_nou rfl rfl (ltn rfl) ?_
            refine wl_nou rfl rfl (ltn rfl) ?_
            refine wl_nou rfl rfl (ltn rfl) ?_
            refine wl_nou rfl rfl (ltn rfl) ?_
            refine wl_nou rfl rfl (ltn rfl) ?_
            refine wl_nou rfl rfl (ltn rfl) ?_
            refine wl_nou rfl rfl (ltn rfl) ?_
            refine wl_nou rfl rfl (ltn rfl) ?_
            refine wl_nou rfl rfl (ltn rfl) ?_
            refine wl_nou rfl rfl (ltn rfl) ?_
            refine wl_nou rfl rfl (ltn rfl) ?_
            refine wl_no rfl rfl rfl (ltn rfl) ?_
            refine wl_val (r_pick_f rfl rfl) (ltn rfl) ?_
            refine wl_val (r_assign rfl) (ltn rfl) ?_
            refine wl_nil ?_
            refine wq_seq ?_
            refine wc_seq ?_
            refine wc_seq ?_
            refine wc_region ?_
            refine wl_val (r_move rfl) (ltn rfl) ?_
            refine wl_nil ?_
            refine wq_seq ?_
            refine wc_cond_f rfl ?_
            refine wc_skip ?_
            refine wq_seq ?_
            refine wc_seq ?_
            refine wc_region ?_
            refine wl_val (r_move rfl) (ltn rfl) ?_
            refine wl_val (r_as (r_add rfl rfl (by omega)) (show Value.int .i64 ((k : Int) + 1) = .int .i64 ((k + 1 : Nat) : Int) by rw [Int.natCast_add]; rfl)) (ltn rfl) ?_
            refine wl_val (r_move rfl) (ltn rfl) ?_
            refine wl_val (r_len Try.underlying22 rfl) (ltn rfl) ?_
            refine wl_val (r_lss rfl rfl) (ltn rfl) ?_
            refine wl_nil ?_
            refine wq_seq ?_
            refine wc_cond rfl (fun h45 => ?_) (fun h45 => ?_)
            · (try simp only [beq_iff_eq, bne_iff_ne, ne_eq, decide_eq_true_eq, decide_eq_false_iff_not, beq_eq_false_iff_ne, bne_eq_false_iff_eq, Bool.not_eq_true', Bool.not_eq_false', Bool.not_eq_eq_eq_not, Bool.not_true, Bool.not_false, gt_iff_lt, ge_iff_le, Int.not_lt, Int.not_le] at h45)
              
              refine wc_seq ?_
              refine wc_region ?_
              refine wl_val (r_move rfl) (ltn rfl) ?_
              refine wl_val (r_as (r_add rfl rfl (by omega)) (show Value.int .i64 ((k : Int) + 1) = .int .i64 ((k + 1 : Nat) : Int) by rw [Int.natCast_add]; rfl)) (ltn rfl) ?_
              refine wl_val (r_assign rfl) (ltn rfl) ?_
              refine wl_nil ?_
              refine wq_seq ?_
              refine wc_region ?_
              refine wl_val (r_move rfl) (ltn rfl) ?_
              refine wl_val (r_move rfl) (ltn rfl) ?_
              refine wl_val (r_move rfl) (ltn rfl) ?_
              refine wl_val (r_index Try.underlying22 Try.sizeOf21 rfl rfl (by omega)) (ltn rfl) ?_
              refine wl_val (r_load (plain_of Try.underlying21 rfl) rfl (by first | exact RdI.at1n (hv _ (HL.right)) (by omega) | exact RdI.at0 (hv _ (HL.right)) (by omega) | exact RdI.at1 (hv _ (HL.right)) (by omega))) (ltn rfl) ?_
              refine wl_eff (e_lit_ints (k := .i32) (l := [_]) HL Try.underlying22 Try.sizeOf21 Try.zeroValue21 rfl rfl rfl (by decide)) (ltn rfl) ?_
              rintro l58 w58 H58
              refine wl_eff (e_append_ints H58.f2 ((H58).row_rd) Try.underlying22 (show (Try.prog.info? 21).map (fun i => (i.zero, i.size, i.bytes)) = some (some (.int .i32 0), 1, 4) by kernel_rfl) rfl rfl (by first | omega | (simp only [List.length_append, List.length_nil, List.length_cons]; omega) | (simp; omega)) (by first | omega | (simp only [List.length_append, List.length_nil, List.length_cons]; omega) | (simp; omega))) (ltn rfl) ?_
              rintro l59 w59 H59
              try simp only [List.nil_append] at H59
              refine wl_val (r_assign rfl) (ltn rfl) ?_
              refine wl_nil ?_
              refine wq_block_normal ?_
              refine wq_block_normal ?_
              refine wq_seq ?_
              refine wc_region ?_
              refine wl_val (r_move rfl) (ltn rfl) ?_
              refine wl_val (r_as (r_add rfl rfl (by omega)) ((by first | exact (show Value.int .i64 ((k : Int) + 1) = .int .i64 ((k + 1 : Nat) : Int) from by rw [Int.natCast_add]; rfl) | exact (show Value.int .i64 (((k + 1 : Nat) : Int) + 1) = .int .i64 ((k + 1 + 1 : Nat) : Int) from by rw [Int.natCast_add (k + 1)]; rfl)))) (ltn rfl) ?_
              refine wl_val (r_assign rfl) (ltn rfl) ?_
              refine wl_nil ?_
              refine wq_round (_, _, _) (Sub.cons rfl (Sub.cons rfl (Sub.cons rfl (Sub.nil _)))) (Sub.cons rfl (Sub.nil _)) (by (try dsimp only); exact by first | exact ⟨_, sr_end hsr hkl (by assumption) (by assumption), H59.f2.right⟩ | exact ⟨_, sr_open hsr hkl (by assumption) (by omega), H59.f2.right⟩ | exact ⟨_, sr_back1 hsr (by omega) (by assumption) (by assumption) hs0 hgo, H59.f2.right⟩ | exact ⟨_, sr_back0 hsr (by omega) (by assumption) (by assumption) (by first | exact hgo | exact .inl (by omega) | (rw [show sv = 34 by omega, goes34 (by omega)]; exact .inr (decide_eq_true (in4.1 (by assumption))))), H59.f2.right⟩ | exact ⟨_, sr_last hsr hkl (by omega) (by assumption) (by assumption), H59.f2.right⟩ | exact ⟨_, sr_stay hsr hkl (by omega) (by omega) (by omega), H59.f2.right⟩ | (exfalso; omega)) ?_
              · (try dsimp only); omega
            · (try simp only [beq_iff_eq, bne_iff_ne, ne_eq, decide_eq_true_eq, decide_eq_false_iff_not, beq_eq_false_iff_ne, bne_eq_false_iff_eq, Bool.not_eq_true', Bool.not_eq_false', Bool.not_eq_eq_eq_not, Bool.not_true, Bool.not_false, gt_iff_lt, ge_iff_le, Int.not_lt, Int.not_le] at h45)
              
              refine wc_skip ?_
              refine wq_block_normal ?_
              refine wq_block_normal ?_
              refine wq_seq ?_
              refine wc_region ?_
              refine wl_val (r_move rfl) (ltn rfl) ?_
              refine wl_val (r_as (r_add rfl rfl (by omega)) ((by first | exact (show Value.int .i64 ((k : Int) + 1) = .int .i64 ((k + 1 : Nat) : Int) from by rw [Int.natCast_add]; rfl) | exact (show Value.int .i64 (((k + 1 : Nat) : Int) + 1) = .int .i64 ((k + 1 + 1 : Nat) : Int) from by rw [Int.natCast_add (k + 1)]; rfl)))) (ltn rfl) ?_
              refine wl_val (r_assign rfl) (ltn rfl) ?_
              refine wl_nil ?_
              refine wq_round (_, _, _) (Sub.cons rfl (Sub.cons rfl (Sub.cons rfl (Sub.nil _)))) (Sub.cons rfl (Sub.nil _)) (by (try dsimp only); exact by first | exact ⟨_, sr_end hsr hkl (by assumption) (by assumption), HL⟩ | exact ⟨_, sr_open hsr hkl (by assumption) (by omega), HL⟩ | exact ⟨_, sr_back1 hsr (by omega) (by assumption) (by assumption) hs0 hgo, HL⟩ | exact ⟨_, sr_back0 hsr (by omega) (by assumption) (by assumption) (by first | exact hgo | exact .inl (by omega) | (rw [show sv = 34 by omega, goes34 (by omega)]; exact .inr (decide_eq_true (in4.1 (by assumption))))), HL⟩ | exact ⟨_, sr_last hsr hkl (by omega) (by assumption) (by assumption), HL⟩ | exact ⟨_, sr_stay hsr hkl (by omega) (by omega) (by omega), HL⟩ | (exfalso; omega)) ?_
              · (try dsimp only); omega
        · (try simp only [beq_iff_eq, bne_iff_ne, ne_eq, decide_eq_true_eq, decide_eq_false_iff_not, beq_eq_false_iff_ne, bne_eq_false_iff_eq, Bool.not_eq_true', Bool.not_eq_false', Bool.not_eq_eq_eq_not, Bool.not_true, Bool.not_false, gt_iff_lt, ge_iff_le, Int.not_lt, Int.not_le] at h30)
          
          refine wc_seq ?_
          refine wc_region ?_
          refine wl_val (r_move rfl) (ltn rfl) ?_
          refine wl_val (r_eql rfl rfl) (ltn rfl) ?_
          refine wl_split rfl (ltn rfl) (fun h46 => ?_) (fun h46 => ?_)
          · (try simp only [beq_iff_eq, bne_iff_ne, ne_eq, decide_eq_true_eq, decide_eq_false_iff_not, beq_eq_false_iff_ne, bne_eq_false_iff_eq, Bool.not_eq_true', Bool.not_eq_false', Bool.not_eq_eq_eq_not, Bool.not_true, Bool.not_false, gt_iff_lt, ge_iff_le, Int.not_lt, Int.not_le] at h46)
            refine wl_yes rfl rfl ?_
            refine wl_val (r_move rfl) (ltn rfl) ?_
            refine wl_yes rfl rfl ?_
            refine wl_val (r_eql rfl rfl) (ltn rfl) ?_
            refine wl_yes rfl rfl ?_
            refine wl_split rfl (ltn rfl) (fun h47 => ?_) (fun h47 => ?_)
            · (try simp only [beq_iff_eq, bne_iff_ne, ne_eq, decide_eq_true_eq, decide_eq_false_iff_not, beq_eq_false_iff_ne, bne_eq_false_iff_eq, Bool.not_eq_true', Bool.not_eq_false', Bool.not_eq_eq_eq_not, Bool.not_true, Bool.not_false, gt_iff_lt, ge_iff_le, Int.not_lt, Int.not_le] at h47)
              refine wl_no rfl rfl rfl (ltn rfl) ?_
              refine wl_no rfl rfl rfl (ltn rfl) ?_
              refine wl_yes rfl rfl ?_
              refine wl_val (r_pick_t rfl rfl) (ltn rfl) ?_
              refine wl_yes rfl rfl ?_
              refine wl_val (r_move rfl) (ltn rfl) ?_
              refine wl_no rfl rfl rfl (ltn rfl) ?_
              refine wl_no rfl rfl rfl (ltn rfl) ?_
              refine wl_yes rfl rfl ?_
              refine wl_val (r_pick_t rfl rfl) (ltn rfl) ?_
              refine wl_val (r_pick_t rfl rfl) (ltn rfl) ?_
              refine wl_val (r_assign rfl) (ltn rfl) ?_
              refine wl_nil ?_
              refine wq_seq ?_
              refine wc_cond_t rfl ?_
              refine wc_region ?_
              refine wl_val (r_move rfl) (ltn rfl) ?_
              refine wl_val (r_assign rfl) (ltn rfl) ?_
              refine wl_nil ?_
              refine wq_block_normal ?_
              refine wq_block_normal ?_
              refine wq_seq ?_
              refine wc_region ?_
              refine wl_val (r_move rfl) (ltn rfl) ?_
              refine wl_val (r_as (r_add rfl rfl (by omega)) ((by first | exact (show Value.int .i64 ((k : Int) + 1) = .int .i64 ((k + 1 : Nat) : Int) from by rw [Int.natCast_add]; rfl) | exact (show Value.int .i64 (((k + 1 : Nat) : Int) + 1) = .int .i64 ((k + 1 + 1 : Nat) : Int) from by rw [Int.natCast_add (k + 1)]; rfl)))) (ltn rfl) ?_
              refine wl_val (r_assign rfl) (ltn rfl) ?_
              refine wl_nil ?_
              refine wq_round (_, _, _) (Sub.cons rfl (Sub.cons rfl (Sub.cons rfl (Sub.nil _)))) (Sub.cons rfl (Sub.nil _)) (by (try dsimp only); exact by first | exact ⟨_, sr_end hsr hkl (by assumption) (by assumption), HL⟩ | exact ⟨_, sr_open hsr hkl (by assumption) (by omega), HL⟩ | exact ⟨_, sr_back1 hsr (by omega) (by assumption) (by assumption) hs0 hgo, HL⟩ | exact ⟨_, sr_back0 hsr (by omega) (by assumption) (by assumption) (by first | exact hgo | exact .inl (by omega) | (rw [show sv = 34 by omega, goes34 (by omega)]; exact .inr (decide_eq_true (in4.1 (by assumption))))), HL⟩ | exact ⟨_, sr_last hsr hkl (by omega) (by assumption) (by assumption), HL⟩ | exact ⟨_, sr_stay hsr hkl (by omega) (by omega) (by omega), HL⟩ | (exfalso; omega)) ?_
              · (try dsimp only); omega
            · (try simp only [beq_iff_eq, bne_iff_ne, ne_eq, decide_eq_true_eq, decide_eq_false_iff_not, beq_eq_false_iff_ne, bne_eq_false_iff_eq, Bool.not_eq_true', Bool.not_eq_false', Bool.not_eq_eq_eq_not, Bool.not_true, Bool.not_false, gt_iff_lt, ge_iff_le, Int.not_lt, Int.not_le] at h47)
              refine wl_yes rfl rfl ?_
              refine wl_val (r_move rfl) (ltn rfl) ?_
              refine wl_yes rfl rfl ?_
              refine wl_val (r_eql rfl rfl) (ltn rfl) ?_
              refine wl_yes rfl rfl ?_
              refine wl_val (r_pick_f rfl rfl) (ltn rfl) ?_
              refine wl_yes rfl rfl ?_
              refine wl_split rfl (ltn rfl) (fun h48 => ?_) (fun h48 => ?_)
              · (try simp only [beq_iff_eq, bne_iff_ne, ne_eq, decide_eq_true_eq, decide_eq_false_iff_not, beq_eq_false_iff_ne, bne_eq_false_iff_eq, Bool.not_eq_true', Bool.not_eq_false', Bool.not_eq_eq_eq_not, Bool.not_true, Bool.not_false, gt_iff_lt, ge_iff_le, Int.not_lt, Int.not_le] at h48)
                refine wl_no rfl rfl rfl (ltn rfl) ?_
                refine wl_no rfl rfl rfl (ltn rfl) ?_
                refine wl_yes rfl rfl ?_
                refine wl_val (r_pick_t rfl rfl) (ltn rfl) ?_
                refine wl_val (r_pick_t rfl rfl) (ltn rfl) ?_
                refine wl_val (r_assign rfl) (ltn rfl) ?_
                refine wl_nil ?_
                refine wq_seq ?_
                refine wc_cond_t rfl ?_
                refine wc_region ?_
                refine wl_val (r_move rfl) (ltn rfl) ?_
                refine wl_val (r_assign rfl) (ltn rfl) ?_
                refine wl_nil ?_
                refine wq_block_normal ?_
                refine wq_block_normal ?_
                refine wq_seq ?_
                refine wc_region ?_
                refine wl_val (r_move rfl) (ltn rfl) ?_
                refine wl_val (r_as (r_add rfl rfl (by omega)) ((by first | exact (show Value.int .i64 ((k : Int) + 1) = .int .i64 ((k + 1 : Nat) : Int) from by rw [Int.natCast_add]; rfl) | exact (show Value.int .i64 (((k + 1 : Nat) : Int) + 1) = .int .i64 ((k + 1 + 1 : Nat) : Int) from by rw [Int.natCast_add (k + 1)]; rfl)))) (ltn rfl) ?_
                refine wl_val (r_assign rfl) (ltn rfl) ?_
                refine wl_nil ?_
                refine wq_round (_, _, _) (Sub.cons rfl (Sub.cons rfl (Sub.cons rfl (Sub.nil _)))) (Sub.cons rfl (Sub.nil _)) (by (try dsimp only); exact by first | exact ⟨_, sr_end hsr hkl (by assumption) (by assumption), HL⟩ | exact ⟨_, sr_open hsr hkl (by assumption) (by omega), HL⟩ | exact ⟨_, sr_back1 hsr (by omega) (by assumption) (by assumption) hs0 hgo, HL⟩ | exact ⟨_, sr_back0 hsr (by omega) (by assumption) (by assumption) (by first | exact hgo | exact .inl (by omega) | (rw [show sv = 34 by omega, goes34 (by omega)]; exact .inr (decide_eq_true (in4.1 (by assumption))))), HL⟩ | exact ⟨_, sr_last hsr hkl (by omega) (by assumption) (by assumption), HL⟩ | exact ⟨_, sr_stay hsr hkl (by omega) (by omega) (by omega), HL⟩ | (exfalso; omega)) ?_
                · (try dsimp only); omega
              · (try simp only [beq_iff_eq, bne_iff_ne, ne_eq, decide_eq_true_eq, decide_eq_false_iff_not, beq_eq_false_iff_ne, bne_eq_false_iff_eq, Bool.not_eq_true', Bool.not_eq_false', Bool.not_eq_eq_eq_not, Bool.not_true, Bool.not_false, gt_iff_lt, ge_iff_le, Int.not_lt, Int.not_le] at h48)
                refine wl_yes rfl rfl ?_
                refine wl_val (r_move rfl) (ltn rfl) ?_
                refine wl_yes rfl rfl ?_
                refine wl_val (r_eql rfl rfl) (ltn rfl) ?_
                refine wl_yes rfl rfl ?_
                refine wl_val (r_pick_f rfl rfl) (ltn rfl) ?_
                refine wl_val (r_pick_t rfl rfl) (ltn rfl) ?_
                refine wl_val (r_assign rfl) (ltn rfl) ?_
                refine wl_nil ?_
                refine wq_seq ?_
                refine wc_cond rfl (fun h49 => ?_) (fun h49 => ?_)
                · (try simp only [beq_iff_eq, bne_iff_ne, ne_eq, decide_eq_true_eq, decide_eq_false_iff_not, beq_eq_false_iff_ne, bne_eq_false_iff_eq, Bool.not_eq_true', Bool.not_eq_false', Bool.not_eq_eq_eq_not, Bool.not_true, Bool.not_false, gt_iff_lt, ge_iff_le, Int.not_lt, Int.not_le] at h49)
                  
                  refine wc_region ?_
                  refine wl_val (r_move rfl) (ltn rfl) ?_
                  refine wl_val (r_assign rfl) (ltn rfl) ?_
                  refine wl_nil ?_
                  refine wq_block_normal ?_
                  refine wq_block_normal ?_
                  refine wq_seq ?_
                  refine wc_region ?_
                  refine wl_val (r_move rfl) (ltn rfl) ?_
                  refine wl_val (r_as (r_add rfl rfl (by omega)) ((by first | exact (show Value.int .i64 ((k : Int) + 1) = .int .i64 ((k + 1 : Nat) : Int) from by rw [Int.natCast_add]; rfl) | exact (show Value.int .i64 (((k + 1 : Nat) : Int) + 1) = .int .i64 ((k + 1 + 1 : Nat) : Int) from by rw [Int.natCast_add (k + 1)]; rfl)))) (ltn rfl) ?_
                  refine wl_val (r_assign rfl) (ltn rfl) ?_
                  refine wl_nil ?_
                  refine wq_round (_, _, _) (Sub.cons rfl (Sub.cons rfl (Sub.cons rfl (Sub.nil _)))) (Sub.cons rfl (Sub.nil _)) (by (try dsimp only); exact by first | exact ⟨_, sr_end hsr hkl (by assumption) (by assumption), HL⟩ | exact ⟨_, sr_open hsr hkl (by assumption) (by omega), HL⟩ | exact ⟨_, sr_back1 hsr (by omega) (by assumption) (by assumption) hs0 hgo, HL⟩ | exact ⟨_, sr_back0 hsr (by omega) (by assumption) (by assumption) (by first | exact hgo | exact .inl (by omega) | (rw [show sv = 34 by omega, goes34 (by omega)]; exact .inr (decide_eq_true (in4.1 (by assumption))))), HL⟩ | exact ⟨_, sr_last hsr hkl (by omega) (by assumption) (by assumption), HL⟩ | exact ⟨_, sr_stay hsr hkl (by omega) (by omega) (by omega), HL⟩ | (exfalso; omega)) ?_
                  · (try dsimp only); omega
                · (try simp only [beq_iff_eq, bne_iff_ne, ne_eq, decide_eq_true_eq, decide_eq_false_iff_not, beq_eq_false_iff_ne, bne_eq_false_iff_eq, Bool.not_eq_true', Bool.not_eq_false', Bool.not_eq_eq_eq_not, Bool.not_true, Bool.not_false, gt_iff_lt, ge_iff_le, Int.not_lt, Int.not_le] at h49)
                  
                  refine wc_region ?_
                  refine wl_val (r_move rfl) (ltn rfl) ?_
                  refine wl_val (r_move rfl) (ltn rfl) ?_
                  refine wl_eff (e_lit_ints (k := .i32) (l := [_]) HL Try.underlying22 Try.sizeOf21 Try.zeroValue21 rfl rfl rfl (by decide)) (ltn rfl) ?_
                  rintro l60 w60 H60
                  refine wl_eff (e_append_ints H60.f2 ((H60).row_rd) Try.underlying22 (show (Try.prog.info? 21).map (fun i => (i.zero, i.size, i.bytes)) = some (some (.int .i32 0), 1, 4) by kernel_rfl) rfl rfl (by first | omega | (simp only [List.length_append, List.length_nil, List.length_cons]; omega) | (simp; omega)) (by first | omega | (simp only [List.length_append, List.length_nil, List.length_cons]; omega) | (simp; omega))) (ltn rfl) ?_
                  rintro l61 w61 H61
                  try simp only [List.nil_append] at H61
                  refine wl_val (r_assign rfl) (ltn rfl) ?_
                  refine wl_nil ?_
                  refine wq_block_normal ?_
                  refine wq_block_normal ?_
                  refine wq_seq ?_
                  refine wc_region ?_
                  refine wl_val (r_move rfl) (ltn rfl) ?_
                  refine wl_val (r_as (r_add rfl rfl (by omega)) ((by first | exact (show Value.int .i64 ((k : Int) + 1) = .int .i64 ((k + 1 : Nat) : Int) from by rw [Int.natCast_add]; rfl) | exact (show Value.int .i64 (((k + 1 : Nat) : Int) + 1) = .int .i64 ((k + 1 + 1 : Nat) : Int) from by rw [Int.natCast_add (k + 1)]; rfl)))) (ltn rfl) ?_
                  refine wl_val (r_assign rfl) (ltn rfl) ?_
                  refine wl_nil ?_
                  refine wq_round (_, _, _) (Sub.cons rfl (Sub.cons rfl (Sub.cons rfl (Sub.nil _)))) (Sub.cons rfl (Sub.nil _)) (by (try dsimp only); exact by first | exact ⟨_, sr_end hsr hkl (by assumption) (by assumption), H61.f2.right⟩ | exact ⟨_, sr_open hsr hkl (by assumption) (by omega), H61.f2.right⟩ | exact ⟨_, sr_back1 hsr (by omega) (by assumption) (by assumption) hs0 hgo, H61.f2.right⟩ | exact ⟨_, sr_back0 hsr (by omega) (by assumption) (by assumption) (by first | exact hgo | exact .inl (by omega) | (rw [show sv = 34 by omega, goes34 (by omega)]; exact .inr (decide_eq_true (in4.1 (by assumption))))), H61.f2.right⟩ | exact ⟨_, sr_last hsr hkl (by omega) (by assumption) (by assumption), H61.f2.right⟩ | exact ⟨_, sr_stay hsr hkl (by omega) (by omega) (by omega), H61.f2.right⟩ | (exfalso; omega)) ?_
                  · (try dsimp only); omega
          · (try simp only [beq_iff_eq, bne_iff_ne, ne_eq, decide_eq_true_eq, decide_eq_false_iff_not, beq_eq_false_iff_ne, bne_eq_false_iff_eq, Bool.not_eq_true', Bool.not_eq_false', Bool.not_eq_eq_eq_not, Bool.not_true, Bool.not_false, gt_iff_lt, ge_iff_le, Int.not_lt, Int.not_le] at h46)
            refine wl_no rfl rfl rfl (ltn rfl) ?_
            refine wl_no rfl rfl rfl (ltn rfl) ?_
            refine wl_no rfl rfl rfl (ltn rfl) ?_
            refine wl_nou rfl rfl (ltn rfl) ?_
            refine wl_nou rfl rfl (ltn rfl) ?_
            refine wl_no rfl rfl rfl (ltn rfl) ?_
            refine wl_no rfl rfl rfl (ltn rfl) ?_
            refine wl_nou rfl rfl (ltn rfl) ?_
            refine wl_nou rfl rfl (ltn rfl) ?_
            refine wl_no rfl rfl rfl (ltn rfl) ?_
            refine wl_val (r_pick_f rfl rfl) (ltn rfl) ?_
            refine wl_val (r_assign rfl) (ltn rfl) ?_
            refine wl_nil ?_
            refine wq_seq ?_
            refine wc_cond_f rfl ?_
            refine wc_region ?_
            refine wl_val (r_move rfl) (ltn rfl) ?_
            refine wl_val (r_move rfl) (ltn rfl) ?_
            refine wl_eff (e_lit_ints (k := .i32) (l := [_]) HL Try.underlying22 Try.sizeOf21 Try.zeroValue21 rfl rfl rfl (by decide)) (ltn rfl) ?_
            rintro l62 w62 H62
            refine wl_eff (e_append_ints H62.f2 ((H62).row_rd) Try.underlying22 (show (Try.prog.info? 21).map (fun i => (i.zero, i.size, i.bytes)) = some (some (.int .i32 0), 1, 4) by kernel_rfl) rfl rfl (by first | omega | (simp only [List.length_append, List.length_nil, List.length_cons]; omega) | (simp; omega)) (by first | omega | (simp only [List.length_append, List.length_nil, List.length_cons]; omega) | (simp; omega))) (ltn rfl) ?_
            rintro l63 w63 H63
            try simp only [List.nil_append] at H63
            refine wl_val (r_assign rfl) (ltn rfl) ?_
            refine wl_nil ?_
            refine wq_block_normal ?_
            refine wq_block_normal ?_
            refine wq_seq ?_
            refine wc_region ?_
            refine wl_val (r_move rfl) (ltn rfl) ?_
            refine wl_val (r_as (r_add rfl rfl (by omega)) ((by first | exact (show Value.int .i64 ((k : Int) + 1) = .int .i64 ((k + 1 : Nat) : Int) from by rw [Int.natCast_add]; rfl) | exact (show Value.int .i64 (((k + 1 : Nat) : Int) + 1) = .int .i64 ((k + 1 + 1 : Nat) : Int) from by rw [Int.natCast_add (k + 1)]; rfl)))) (ltn rfl) ?_
            refine wl_val (r_assign rfl) (ltn rfl) ?_
            refine wl_nil ?_
            refine wq_round (_, _, _) (Sub.cons rfl (Sub.cons rfl (Sub.cons rfl (Sub.nil _)))) (Sub.cons rfl (Sub.nil _)) (by (try dsimp only); exact by first | exact ⟨_, sr_end hsr hkl (by assumption) (by assumption), H63.f2.right⟩ | exact ⟨_, sr_open hsr hkl (by assumption) (by omega), H63.f2.right⟩ | exact ⟨_, sr_back1 hsr (by omega) (by assumption) (by assumption) hs0 hgo, H63.f2.right⟩ | exact ⟨_, sr_back0 hsr (by omega) (by assumption) (by assumption) (by first | exact hgo | exact .inl (by omega) | (rw [show sv = 34 by omega, goes34 (by omega)]; exact .inr (decide_eq_true (in4.1 (by assumption))))), H63.f2.right⟩ | exact ⟨_, sr_last hsr hkl (by omega) (by assumption) (by assumption), H63.f2.right⟩ | exact ⟨_, sr_stay hsr hkl (by omega) (by omega) (by omega), H63.f2.right⟩ | (exfalso; omega)) ?_
            · (try dsimp only); omega
      · (try simp only [beq_iff_eq, bne_iff_ne, ne_eq, decide_eq_true_eq, decide_eq_false_iff_not, beq_eq_false_iff_ne, bne_eq_false_iff_eq, Bool.not_eq_true', Bool.not_eq_false', Bool.not_eq_eq_eq_not, Bool.not_true, Bool.not_false, gt_iff_lt, ge_iff_le, Int.not_lt, Int.not_le] at h29)
        refine wl_no rfl rfl rfl (ltn rfl) ?_
        refine wl_no rfl rfl rfl (ltn rfl) ?_
        refine wl_val (r_pick_f rfl rfl) (ltn rfl) ?_
        refine wl_val (r_assign rfl) (ltn rfl) ?_
        refine wl_nil ?_
        refine wq_seq ?_
        refine wc_cond_f rfl ?_
        refine wc_seq ?_
        refine wc_region ?_
        refine wl_val (r_move rfl) (ltn rfl) ?_
        refine wl_val (r_eql rfl rfl) (ltn rfl) ?_
        refine wl_split rfl (ltn rfl) (fun h50 => ?_) (fun h50 => ?_)
        · (try simp only [beq_iff_eq, bne_iff_ne, ne_eq, decide_eq_true_eq, decide_eq_false_iff_not, beq_eq_false_iff_ne, bne_eq_false_iff_eq, Bool.not_eq_true', Bool.not_eq_false', Bool.not_eq_eq_eq_not, Bool.not_true, Bool.not_false, gt_iff_lt, ge_iff_le, Int.not_lt, Int.not_le] at h50)
          refine wl_yes rfl rfl ?_
          refine wl_val (r_move rfl) (ltn rfl) ?_
          refine wl_yes rfl rfl ?_
          refine wl_val (r_eql rfl rfl) (ltn rfl) ?_
          refine wl_yes rfl rfl ?_
          refine wl_split rfl (ltn rfl) (fun h51 => ?_) (fun h51 => ?_)
          · (try simp only [beq_iff_eq, bne_iff_ne, ne_eq, decide_eq_true_eq, decide_eq_false_iff_not, beq_eq_false_iff_ne, bne_eq_false_iff_eq, Bool.not_eq_true', Bool.not_eq_false', Bool.not_eq_eq_eq_not, Bool.not_true, Bool.not_false, gt_iff_lt, ge_iff_le, Int.not_lt, Int.not_le] at h51)
            refine wl_no rfl rfl rfl (ltn rfl) ?_
            refine wl_no rfl rfl rfl (ltn rfl) ?_
            refine wl_yes rfl rfl ?_
            refine wl_val (r_pick_t rfl rfl) (ltn rfl) ?_
            refine wl_yes rfl rfl ?_
            refine wl_val (r_move rfl) (ltn rfl) ?_
            refine wl_no rfl rfl rfl (ltn rfl) ?_
            refine wl_no rfl rfl rfl (ltn rfl) ?_
            refine wl_yes rfl rfl ?_
            refine wl_val (r_pick_t rfl rfl) (ltn rfl) ?_
            refine wl_val (r_pick_t rfl rfl) (ltn rfl) ?_
            refine wl_val (r_assign rfl) (ltn rfl) ?_
            refine wl_nil ?_
            refine wq_seq ?_
            refine wc_cond_t rfl ?_
            refine wc_region ?_
            refine wl_val (r_move rfl) (ltn rfl) ?_
            refine wl_val (r_assign rfl) (ltn rfl) ?_
            refine wl_nil ?_
            refine wq_block_normal ?_
            refine wq_block_normal ?_
            refine wq_seq ?_
            refine wc_region ?_
            refine wl_val (r_move rfl) (ltn rfl) ?_
            refine wl_val (r_as (r_add rfl rfl (by omega)) ((by first | exact (show Value.int .i64 ((k : Int) + 1) = .int .i64 ((k + 1 : Nat) : Int) from by rw [Int.natCast_add]; rfl) | exact (show Value.int .i64 (((k + 1 : Nat) : Int) + 1) = .int .i64 ((k + 1 + 1 : Nat) : Int) from by rw [Int.natCast_add (k + 1)]; rfl)))) (ltn rfl) ?_
            refine wl_val (r_assign rfl) (ltn rfl) ?_
            refine wl_nil ?_
            refine wq_round (_, _, _) (Sub.cons rfl (Sub.cons rfl (Sub.cons rfl (Sub.nil _)))) (Sub.cons rfl (Sub.nil _)) (by (try dsimp only); exact by first | exact ⟨_, sr_end hsr hkl (by assumption) (by assumption), HL⟩ | exact ⟨_, sr_open hsr hkl (by assumption) (by omega), HL⟩ | exact ⟨_, sr_back1 hsr (by omega) (by assumption) (by assumption) hs0 hgo, HL⟩ | exact ⟨_, sr_back0 hsr (by omega) (by assumption) (by assumption) (by first | exact hgo | exact .inl (by omega) | (rw [show sv = 34 by omega, goes34 (by omega)]; exact .inr (decide_eq_true (in4.1 (by assumption))))), HL⟩ | exact ⟨_, sr_last hsr hkl (by omega) (by assumption) (by assumption), HL⟩ | exact ⟨_, sr_stay hsr hkl (by omega) (by omega) (by omega), HL⟩ | (exfalso; omega)) ?_
            · (try dsimp only); omega
          · (try simp only [beq_iff_eq, bne_iff_ne, ne_eq, decide_eq_true_eq, decide_eq_false_iff_not, beq_eq_false_iff_ne, bne_eq_false_iff_eq, Bool.not_eq_true', Bool.not_eq_false', Bool.not_eq_eq_eq_not, Bool.not_true, Bool.not_false, gt_iff_lt, ge_iff_le, Int.not_lt, Int.not_le] at h51)
            refine wl_yes rfl rfl ?_
            refine wl_val (r_move rfl) (ltn rfl) ?_
            refine wl_yes rfl rfl ?_
            refine wl_val (r_eql rfl rfl) (ltn rfl) ?_
            refine wl_yes rfl rfl ?_
            refine wl_val (r_pick_f rfl rfl) (ltn rfl) ?_
            refine wl_yes rfl rfl ?_
            refine wl_split rfl (ltn rfl) (fun h52 => ?_) (fun h52 => ?_)
            · (try simp only [beq_iff_eq, bne_iff_ne, ne_eq, decide_eq_true_eq, decide_eq_false_iff_not, beq_eq_false_iff_ne, bne_eq_false_iff_eq, Bool.not_eq_true', Bool.not_eq_false', Bool.not_eq_eq_eq_not, Bool.not_true, Bool.not_false, gt_iff_lt, ge_iff_le, Int.not_lt, Int.not_le] at h52)
              refine wl_no rfl rfl rfl (ltn rfl) ?_
              refine wl_no rfl rfl rfl (ltn rfl) ?_
              refine wl_yes rfl rfl ?_
              refine wl_val (r_pick_t rfl rfl) (ltn rfl) ?_
              refine wl_val (r_pick_t rfl rfl) (ltn rfl) ?_
              refine wl_val (r_assign rfl) (ltn rfl) ?_
              refine wl_nil ?_
              refine wq_seq ?_
              refine wc_cond_t rfl ?_
              refine wc_region ?_
              refine wl_val (r_move rfl) (ltn rfl) ?_
              refine wl_val (r_assign rfl) (ltn rfl) ?_
              refine wl_nil ?_
              refine wq_block_normal ?_
              refine wq_block_normal ?_
              refine wq_seq ?_
              refine wc_region ?_
              refine wl_val (r_move rfl) (ltn rfl) ?_
              refine wl_val (r_as (r_add rfl rfl (by omega)) ((by first | exact (show Value.int .i64 ((k : Int) + 1) = .int .i64 ((k + 1 : Nat) : Int) from by rw [Int.natCast_add]; rfl) | exact (show Value.int .i64 (((k + 1 : Nat) : Int) + 1) = .int .i64 ((k + 1 + 1 : Nat) : Int) from by rw [Int.natCast_add (k + 1)]; rfl)))) (ltn rfl) ?_
              refine wl_val (r_assign rfl) (ltn rfl) ?_
              refine wl_nil ?_
              refine wq_round (_, _, _) (Sub.cons rfl (Sub.cons rfl (Sub.cons rfl (Sub.nil _)))) (Sub.cons rfl (Sub.nil _)) (by (try dsimp only); exact by first | exact ⟨_, sr_end hsr hkl (by assumption) (by assumption), HL⟩ | exact ⟨_, sr_open hsr hkl (by assumption) (by omega), HL⟩ | exact ⟨_, sr_back1 hsr (by omega) (by assumption) (by assumption) hs0 hgo, HL⟩ | exact ⟨_, sr_back0 hsr (by omega) (by assumption) (by assumption) (by first | exact hgo | exact .inl (by omega) | (rw [show sv = 34 by omega, goes34 (by omega)]; exact .inr (decide_eq_true (in4.1 (by assumption))))), HL⟩ | exact ⟨_, sr_last hsr hkl (by omega) (by assumption) (by assumption), HL⟩ | exact ⟨_, sr_stay hsr hkl (by omega) (by omega) (by omega), HL⟩ | (exfalso; omega)) ?_
              · (try dsimp only); omega
            · (try simp only [beq_iff_eq, bne_iff_ne, ne_eq, decide_eq_true_eq, decide_eq_false_iff_not, beq_eq_false_iff_ne, bne_eq_false_iff_eq, Bool.not_eq_true', Bool.not_eq_false', Bool.not_eq_eq_eq_not, Bool.not_true, Bool.not_false, gt_iff_lt, ge_iff_le, Int.not_lt, Int.not_le] at h52)
              refine wl_yes rfl rfl ?_
              refine wl_val (r_move rfl) (ltn rfl) ?_
              refine wl_yes rfl rfl ?_
              refine wl_val (r_eql rfl rfl) (ltn rfl) ?_
              refine wl_yes rfl rfl ?_
              refine wl_val (r_pick_f rfl rfl) (ltn rfl) ?_
              refine wl_val (r_pick_t rfl rfl) (ltn rfl) ?_
              refine wl_val (r_assign rfl) (ltn rfl) ?_
              refine wl_nil ?_
              refine wq_seq ?_
              refine wc_cond rfl (fun h53 => ?_) (fun h53 => ?_)
              · (try simp only [beq_iff_eq, bne_iff_ne, ne_eq, decide_eq_true_eq, decide_eq_false_iff_not, beq_eq_false_iff_ne, bne_eq_false_iff_eq, Bool.not_eq_true', Bool.not_eq_false', Bool.not_eq_eq_eq_not, Bool.not_true, Bool.not_false, gt_iff_lt, ge_iff_le, Int.not_lt, Int.not_le] at h53)
                
                refine wc_region ?_
                refine wl_val (r_move rfl) (ltn rfl) ?_
                refine wl_val (r_assign rfl) (ltn rfl) ?_
                refine wl_nil ?_
                refine wq_block_normal ?_
                refine wq_block_normal ?_
                refine wq_seq ?_
                refine wc_region ?_
                refine wl_val (r_move rfl) (ltn rfl) ?_
                refine wl_val (r_as (r_add rfl rfl (by omega)) ((by first | exact (show Value.int .i64 ((k : Int) + 1) = .int .i64 ((k + 1 : Nat) : Int) from by rw [Int.natCast_add]; rfl) | exact (show Value.int .i64 (((k + 1 : Nat) : Int) + 1) = .int .i64 ((k + 1 + 1 : Nat) : Int) from by rw [Int.natCast_add (k + 1)]; rfl)))) (ltn rfl) ?_
                refine wl_val (r_assign rfl) (ltn rfl) ?_
                refine wl_nil ?_
                refine wq_round (_, _, _) (Sub.cons rfl (Sub.cons rfl (Sub.cons rfl (Sub.nil _)))) (Sub.cons rfl (Sub.nil _)) (by (try dsimp only); exact by first | exact ⟨_, sr_end hsr hkl (by assumption) (by assumption), HL⟩ | exact ⟨_, sr_open hsr hkl (by assumption) (by omega), HL⟩ | exact ⟨_, sr_back1 hsr (by omega) (by assumption) (by assumption) hs0 hgo, HL⟩ | exact ⟨_, sr_back0 hsr (by omega) (by assumption) (by assumption) (by first | exact hgo | exact .inl (by omega) | (rw [show sv = 34 by omega, goes34 (by omega)]; exact .inr (decide_eq_true (in4.1 (by assumption))))), HL⟩ | exact ⟨_, sr_last hsr hkl (by omega) (by assumption) (by assumption), HL⟩ | exact ⟨_, sr_stay hsr hkl (by omega) (by omega) (by omega), HL⟩ | (exfalso; omega)) ?_
                · (try dsimp only); omega
              · (try simp only [beq_iff_eq, bne_iff_ne, ne_eq, decide_eq_true_eq, decide_eq_false_iff_not, beq_eq_false_iff_ne, bne_eq_false_iff_eq, Bool.not_eq_true', Bool.not_eq_false', Bool.not_eq_eq_eq_not, Bool.not_true, Bool.not_false, gt_iff_lt, ge_iff_le, Int.not_lt, Int.not_le] at h53)
                
                refine wc_region ?_
                refine wl_val (r_move rfl) (ltn rfl) ?_
                refine wl_val (r_move rfl) (ltn rfl) ?_
                refine wl_eff (e_lit_ints (k := .i32) (l := [_]) HL Try.underlying22 Try.sizeOf21 Try.zeroValue21 rfl rfl rfl (by decide)) (ltn rfl) ?_
                rintro l64 w64 H64
                refine wl_eff (e_append_ints H64.f2 ((H64).row_rd) Try.underlying22 (show (Try.prog.info? 21).map (fun i => (i.zero, i.size, i.bytes)) = some (some (.int .i32 0), 1, 4) by kernel_rfl) rfl rfl (by first | omega | (simp only [List.length_append, List.length_nil, List.length_cons]; omega) | (simp; omega)) (by first | omega | (simp only [List.length_append, List.length_nil, List.length_cons]; omega) | (simp; omega))) (ltn rfl) ?_
                rintro l65 w65 H65
                try simp only [List.nil_append] at H65
                refine wl_val (r_assign rfl) (ltn rfl) ?_
                refine wl_nil ?_
                refine wq_block_normal ?_
                refine wq_block_normal ?_
                refine wq_seq ?_
                refine wc_region ?_
                refine wl_val (r_move rfl) (ltn rfl) ?_
                refine wl_val (r_as (r_add rfl rfl (by omega)) ((by first | exact (show Value.int .i64 ((k : Int) + 1) = .int .i64 ((k + 1 : Nat) : Int) from by rw [Int.natCast_add]; rfl) | exact (show Value.int .i64 (((k + 1 : Nat) : Int) + 1) = .int .i64 ((k + 1 + 1 : Nat) : Int) from by rw [Int.natCast_add (k + 1)]; rfl)))) (ltn rfl) ?_
                refine wl_val (r_assign rfl) (ltn rfl) ?_
                refine wl_nil ?_
                refine wq_round (_, _, _) (Sub.cons rfl (Sub.cons rfl (Sub.cons rfl (Sub.nil _)))) (Sub.cons rfl (Sub.nil _)) (by (try dsimp only); exact by first | exact ⟨_, sr_end hsr hkl (by assumption) (by assumption), H65.f2.right⟩ | exact ⟨_, sr_open hsr hkl (by assumption) (by omega), H65.f2.right⟩ | exact ⟨_, sr_back1 hsr (by omega) (by assumption) (by assumption) hs0 hgo, H65.f2.right⟩ | exact ⟨_, sr_back0 hsr (by omega) (by assumption) (by assumption) (by first | exact hgo | exact .inl (by omega) | (rw [show sv = 34 by omega, goes34 (by omega)]; exact .inr (decide_eq_true (in4.1 (by assumption))))), H65.f2.right⟩ | exact ⟨_, sr_last hsr hkl (by omega) (by assumption) (by assumption), H65.f2.right⟩ | exact ⟨_, sr_stay hsr hkl (by omega) (by omega) (by omega), H65.f2.right⟩ | (exfalso; omega)) ?_
                · (try dsimp only); omega
        · (try simp only [beq_iff_eq, bne_iff_ne, ne_eq, decide_eq_true_eq, decide_eq_false_iff_not, beq_eq_false_iff_ne, bne_eq_false_iff_eq, Bool.not_eq_true', Bool.not_eq_false', Bool.not_eq_eq_eq_not, Bool.not_true, Bool.not_false, gt_iff_lt, ge_iff_le, Int.not_lt, Int.not_le] at h50)
          refine wl_no rfl rfl rfl (ltn rfl) ?_
          refine wl_no rfl rfl rfl (ltn rfl) ?_
          refine wl_no rfl rfl rfl (ltn rfl) ?_
          refine wl_nou rfl rfl (ltn rfl) ?_
          refine wl_nou rfl rfl (ltn rfl) ?_
          refine wl_no rfl rfl rfl (ltn rfl) ?_
          refine wl_no rfl rfl rfl (ltn rfl) ?_
          refine wl_nou rfl rfl (ltn rfl) ?_
          refine wl_nou rfl rfl (ltn rfl) ?_
          refine wl_no rfl rfl rfl (ltn rfl) ?_
          refine wl_val (r_pick_f rfl rfl) (ltn rfl) ?_
          refine wl_val (r_assign rfl) (ltn rfl) ?_
          refine wl_nil ?_
          refine wq_seq ?_
          refine wc_cond_f rfl ?_
          refine wc_region ?_
          refine wl_val (r_move rfl) (ltn rfl) ?_
          refine wl_val (r_move rfl) (ltn rfl) ?_
          refine wl_eff (e_lit_ints (k := .i32) (l := [_]) HL Try.underlying22 Try.sizeOf21 Try.zeroValue21 rfl rfl rfl (by decide)) (ltn rfl) ?_
          rintro l66 w66 H66
          refine wl_eff (e_append_ints H66.f2 ((H66).row_rd) Try.underlying22 (show (Try.prog.info? 21).map (fun i => (i.zero, i.size, i.bytes)) = some (some (.int .i32 0), 1, 4) by kernel_rfl) rfl rfl (by first | omega | (simp only [List.length_append, List.length_nil, List.length_cons]; omega) | (simp; omega)) (by first | omega | (simp only [List.length_append, List.length_nil, List.length_cons]; omega) | (simp; omega))) (ltn rfl) ?_
          rintro l67 w67 H67
          try simp only [List.nil_append] at H67
          refine wl_val (r_assign rfl) (ltn rfl) ?_
          refine wl_nil ?_
          refine wq_block_normal ?_
          refine wq_block_normal ?_
          refine wq_seq ?_
          refine wc_region ?_
          refine wl_val (r_move rfl) (ltn rfl) ?_
          refine wl_val (r_as (r_add rfl rfl (by omega)) ((by first | exact (show Value.int .i64 ((k : Int) + 1) = .int .i64 ((k + 1 : Nat) : Int) from by rw [Int.natCast_add]; rfl) | exact (show Value.int .i64 (((k + 1 : Nat) : Int) + 1) = .int .i64 ((k + 1 + 1 : Nat) : Int) from by rw [Int.natCast_add (k + 1)]; rfl)))) (ltn rfl) ?_
          refine wl_val (r_assign rfl) (ltn rfl) ?_
          refine wl_nil ?_
          refine wq_round (_, _, _) (Sub.cons rfl (Sub.cons rfl (Sub.cons rfl (Sub.nil _)))) (Sub.cons rfl (Sub.nil _)) (by (try dsimp only); exact by first | exact ⟨_, sr_end hsr hkl (by assumption) (by assumption), H67.f2.right⟩ | exact ⟨_, sr_open hsr hkl (by assumption) (by omega), H67.f2.right⟩ | exact ⟨_, sr_back1 hsr (by omega) (by assumption) (by assumption) hs0 hgo, H67.f2.right⟩ | exact ⟨_, sr_back0 hsr (by omega) (by assumption) (by assumption) (by first | exact hgo | exact .inl (by omega) | (rw [show sv = 34 by omega, goes34 (by omega)]; exact .inr (decide_eq_true (in4.1 (by assumption))))), H67.f2.right⟩ | exact ⟨_, sr_last hsr hkl (by omega) (by assumption) (by assumption), H67.f2.right⟩ | exact ⟨_, sr_stay hsr hkl (by omega) (by omega) (by omega), H67.f2.right⟩ | (exfalso; omega)) ?_
          · (try dsimp only); omega
  · (try simp only [beq_iff_eq, bne_iff_ne, ne_eq, decide_eq_true_eq, decide_eq_false_iff_not, beq_eq_false_iff_ne, bne_eq_false_iff_eq, Bool.not_eq_true', Bool.not_eq_false', Bool.not_eq_eq_eq_not, Bool.not_true, Bool.not_false, gt_iff_lt, ge_iff_le, Int.not_lt, Int.not_le] at h1)
    
    refine wc_exit ?_
    refine wq_then_exit ?_
    refine wq_then_exit ?_
    refine wq_block_hit ?_
    refine wq_seq ?_
    refine wc_seq ?_
    refine wc_region ?_
    refine wl_val (r_move rfl) (ltn rfl) ?_
    refine wl_val (r_assign rfl) (ltn rfl) ?_
    refine wl_nil ?_
    refine wq_seq ?_
    refine wc_ret ?_
    refine wq_end1 (.inl rfl) Try.results22 rfl ?_
    have hle := hsr.le
    obtain rfl : k = l.length := by omega
    have hst := hsr.strip
    rw [List.drop_length, stripR, List.append_nil] at hst
    rw [← hst]; exact HL
end
end Go.Proofs.Ytgoopiakpbcgoaa
