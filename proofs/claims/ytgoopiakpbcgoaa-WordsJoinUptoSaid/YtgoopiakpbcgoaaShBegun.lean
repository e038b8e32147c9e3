/- shwords: what the laws begin with; are lists the same. -/
import Derived.Test.YtgoopiakpbcgoaaShWords
import Derived.Test.YtgoopiakpbcgoaaFlat
set_option linter.unusedSimpArgs false
set_option linter.unusedVariables false
namespace Go.Proofs.Ytgoopiakpbcgoaa
open Go.RowKit Go.Lib
instance : DecidableEq Wd := inferInstanceAs (DecidableEq (Int × Nat × Nat))
theorem wd_eq {c d : Wd} : ((c.1 == d.1) && (((c.2.1 : Nat) : Int) == ((d.2.1 : Nat) : Int)) && (((c.2.2 : Nat) : Int) == ((d.2.2 : Nat) : Int))) = decide (c = d) := by
  obtain ⟨a, b, e⟩ := c; obtain ⟨a', b', e'⟩ := d
  rw [Bool.eq_iff_iff]
  simp only [Bool.and_eq_true, beq_iff_eq, decide_eq_true_eq, Prod.mk.injEq]
  omega
theorem wd_fields {c d : Wd} {w : World} : (Op.equalIn 10000 27 (.agg (wdE c).toArray) (.agg (wdE d).toArray)).run Try.prog w = .ok (decide (c = d)) w := by
  have hf : Try.prog.underlying 27 = some (.struct (Try.prog.fieldsOf 27)) := by kernel_rfl
  have hp : Try.prog.stoodInHeld 27 = false := by kernel_rfl
  have hfs : ((Try.prog.fieldsOf 27).toList.map fun f => (f.name, f.type, f.offset)) = [("Kind", 3, 0), ("From", 3, 1), ("To", 3, 2)] := by kernel_rfl
  have h1 : (Op.eqFields 9999 (wdE c).toArray (wdE d).toArray (Try.prog.fieldsOf 27).toList).run Try.prog w = .ok (decide (c = d)) w := by
    generalize (Try.prog.fieldsOf 27).toList = fs at hfs
    match fs, hfs with
    | [], hfs | [_], hfs | [_, _], hfs | _ :: _ :: _ :: _ :: _, hfs => simp at hfs
    | [f1, f2, f3], hfs =>
      simp only [List.map_cons, List.map_nil, List.cons.injEq, Prod.mk.injEq, and_true] at hfs
      obtain ⟨⟨n1, t1, o1⟩, ⟨n2, t2, o2⟩, n3, t3, o3⟩ := hfs
      have p2 : plainTy Try.prog 3 = true := plain_of Try.underlying3 rfl
      have part_at : ∀ (e : TypeId) (xs : Array Value) (off : Nat) (v : Value), plainTy Try.prog e = true → xs[off]? = some v → (part e xs off).run Try.prog w = .ok v w := fun e xs off v h1 h2 => by simp [part, run_isAgg_no h1, h2]
      have st : ∀ (f : Field) (e : TypeId) (off : Nat) (u v : Value) (r : Bool) (rest : List Field), f.name ≠ "_" → f.type = e → f.offset = off → plainTy Try.prog e = true → (wdE c).toArray[off]? = some u → (wdE d).toArray[off]? = some v → (Op.equalIn 9999 e u v).run Try.prog w = .ok r w →
          (Op.eqFields 9999 (wdE c).toArray (wdE d).toArray (f :: rest)).run Try.prog w = if r then (Op.eqFields 9999 (wdE c).toArray (wdE d).toArray rest).run Try.prog w else .ok false w := fun f e off u v r rest hn ht ho hp h1 h2 h3 => by
        subst ht ho
        rw [Op.eqFields, if_pos hn, Sem.run_bind, part_at _ _ _ _ hp h1, Result.andThen_ok, Sem.run_bind, part_at _ _ _ _ hp h2, Result.andThen_ok, Sem.run_bind, h3, Result.andThen_ok]
        cases r
        · simp
        · simp
      rw [st f1 _ _ _ _ _ _ (by rw [n1]; decide) t1 o1 p2 rfl rfl (run_equalIn_int w 9998 3 .i64 .i64 c.1 d.1 Try.underlying3),
        st f2 _ _ _ _ _ _ (by rw [n2]; decide) t2 o2 p2 rfl rfl (run_equalIn_int w 9998 3 .i64 .i64 (c.2.1 : Nat) (d.2.1 : Nat) Try.underlying3),
        st f3 _ _ _ _ _ _ (by rw [n3]; decide) t3 o3 p2 rfl rfl (run_equalIn_int w 9998 3 .i64 .i64 (c.2.2 : Nat) (d.2.2 : Nat) Try.underlying3), ← wd_eq]
      cases hA : (c.1 == d.1) <;> cases hB : (((c.2.1 : Nat) : Int) == ((d.2.1 : Nat) : Int)) <;> cases hC : (((c.2.2 : Nat) : Int) == ((d.2.2 : Nat) : Int)) <;> rfl
  rw [run_equalIn_agg w 9999 _ _ _ hf hp, h1]
theorem r_wd_neq {L : List (Nat × Value)} {w : World} {ty : TypeId} {x y : Operand} {c d : Wd} (hx : ev L x = some (.agg (wdE c).toArray)) (hy : ev L y = some (.agg (wdE d).toArray)) : Val Try.prog L (.binOp .neq 27 x y 27) ty w (.bool (!decide (c = d))) w := fun ρ hρ _ _ _ _ => by
  simp only [execOp, hρ _ _ hx, hρ _ _ hy]
  have h0 : (eqGuard .neq 27 x y (.agg (wdE c).toArray) (.agg (wdE d).toArray)).run Try.prog w = .ok () w := run_eqGuard_agg w .neq _ x y _ _ (by kernel_rfl)
  have h2 := run_neq_struct (P := Try.prog) w 27 (wdE c).toArray (wdE d).toArray
  rw [wd_fields] at h2
  simp [h0, h2]
theorem r_wd_eql {L : List (Nat × Value)} {w : World} {ty : TypeId} {x y : Operand} {c d : Wd} (hx : ev L x = some (.agg (wdE c).toArray)) (hy : ev L y = some (.agg (wdE d).toArray)) : Val Try.prog L (.binOp .eql 27 x y 27) ty w (.bool (decide (c = d))) w := fun ρ hρ _ _ _ _ => by
  simp only [execOp, hρ _ _ hx, hρ _ _ hy]
  have h0 : (eqGuard .eql 27 x y (.agg (wdE c).toArray) (.agg (wdE d).toArray)).run Try.prog w = .ok () w := run_eqGuard_agg w .eql _ x y _ _ (by kernel_rfl)
  have h2 := run_eql_struct (P := Try.prog) w 27 (wdE c).toArray (wdE d).toArray
  rw [wd_fields] at h2
  simp [h0, h2]
section
variable {w0 w : World} {F : HP} {v u : Value} {l m : List Int} {ws vs : List Wd}
theorem sh_runes_of_ret {s : ByteArray} (H : Holds w0 w F) (hl : Conv.runesFrom s s.size 0 #[] = (l.map (Value.int .i32)).toArray) (hb : l.length ≤ 70368744177664) :
    Ret Try.prog 25 #[.string s] w fun v w' => Holds w0 w' (RowI 21 .i32 v l • F) := by
  refine ret_enter Try.func25 rfl Try.ntmps25 (Nat.le_of_ble_eq_true rfl) ?_
  dsimp only [slots0, Nat.reduceAdd]
  refine wc_seq ?_
  refine wc_region ?_
  refine wl_val (r_assign rfl) (ltn rfl) ?_
  refine wl_nil ?_
  refine wq_seq ?_
  refine wc_seq ?_
  refine wc_region ?_
  refine wl_val (r_move rfl) (ltn rfl) ?_
  refine wl_eff (e_str_runes H Try.underlying9 Try.underlying22 Try.underlying21 rfl hl hb) (ltn rfl) ?_
  rintro u w1 H1
  refine wl_val (r_assign rfl) (ltn rfl) ?_
  refine wl_nil ?_
  refine wq_seq ?_
  refine wc_ret ?_
  refine wq_end1 (.inl rfl) Try.results25 rfl ?_
  exact H1
theorem sh_begun_ret (H : Holds w0 w F) : Ret Try.prog 8 #[] w fun v w' => v = .bool true ∧ Holds w0 w' F := by
  refine ret_enter Try.func8 rfl Try.ntmps8 (Nat.le_of_ble_eq_true rfl) ?_
  dsimp only [slots0, Nat.reduceAdd]
  refine wc_seq ?_
  refine wc_region ?_
  refine wl_val (r_assign rfl) (ltn rfl) ?_
  refine wl_nil ?_
  refine wq_seq ?_
  refine wc_seq ?_
  refine wc_region ?_
  refine wl_eff (e_call (r_call rfl Try.func25 rfl rfl) (sh_runes_of_ret H (l := [101, 99, 104, 111, 32, 39, 97, 32, 98, 39, 124, 119, 99]) (by kernel_rfl) (by decide))) (ltn rfl) ?_
  rintro u1 w1 H1
  refine wl_eff (e_call (r_call rfl Try.func9 rfl rfl) (sh_words_ret H1 (fun W HW => (HW).row_rd) (by unfold Rn32; decide) (by decide))) (ltn rfl) ?_
  rintro u2 w2 H2
  rw [show wordsS [101, 99, 104, 111, 32, 39, 97, 32, 98, 39, 124, 119, 99] = [(0, 0, 4), (0, 5, 10), (1, 10, 11), (0, 11, 13)] from by decide +kernel] at H2
  refine wl_val (r_assign rfl) (ltn rfl) ?_
  refine wl_nil ?_
  refine wq_seq ?_
  refine wc_seq ?_
  refine wc_region ?_
  refine wl_val (r_move rfl) (ltn rfl) ?_
  refine wl_val (r_lenS ((H2).row_rd) Try.underlying24 rfl) (ltn rfl) ?_
  refine wl_val (r_eql rfl rfl) (ltn rfl) ?_
  refine wl_split rfl (ltn rfl) (fun h1 => ?_) (fun h => by exfalso; (try simp only [beq_iff_eq, bne_iff_ne, ne_eq, decide_eq_true_eq, decide_eq_false_iff_not, beq_eq_false_iff_ne, bne_eq_false_iff_eq, Bool.not_eq_true', Bool.not_eq_false', Bool.not_eq_eq_eq_not, Bool.not_true, Bool.not_false, gt_iff_lt, ge_iff_le, Int.not_lt, Int.not_le] at h); simp at h)
  (try simp only [beq_iff_eq, bne_iff_ne, ne_eq, decide_eq_true_eq, decide_eq_false_iff_not, beq_eq_false_iff_ne, bne_eq_false_iff_eq, Bool.not_eq_true', Bool.not_eq_false', Bool.not_eq_eq_eq_not, Bool.not_true, Bool.not_false, gt_iff_lt, ge_iff_le, Int.not_lt, Int.not_le] at h1)
  refine wl_yes rfl rfl ?_
  refine wl_val (r_move rfl) (ltn rfl) ?_
  refine wl_yes rfl rfl ?_
  obtain ⟨bu2, ou2, cu2, eu2⟩ := Rd.posV ((H2).row_rd) (by omega)
  cases eu2
  refine wl_val (r_index Try.underlying24 Try.sizeOf27 rfl rfl (by omega)) (ltn rfl) ?_
  refine wl_yes rfl rfl ?_
  refine wl_val (r_load_elem (k := 1) (ys := [.int .i64 0, .int .i64 5, .int .i64 10]) (H2.row_rd) (by decide) Try.underlying27 rfl Try.sizeOf27 rfl rfl rfl) (ltn rfl) ?_
  refine wl_yes rfl rfl ?_
  refine wl_val (r_build (pl := #[(0, 1), (1, 1), (2, 1)]) (_) Try.underlying27 Try.zeroValue27 (fun w => by kernel_rfl) rfl (rfl)) (ltn rfl) ?_
  refine wl_yes rfl rfl ?_
  refine wl_val (r_wd_eql (c := (0, 5, 10)) (d := (0, 5, 10)) rfl rfl) (ltn rfl) ?_
  refine wl_val (r_pick_t rfl rfl) (ltn rfl) ?_
  refine wl_split rfl (ltn rfl) (fun h2 => ?_) (fun h => by exfalso; (try simp only [beq_iff_eq, bne_iff_ne, ne_eq, decide_eq_true_eq, decide_eq_false_iff_not, beq_eq_false_iff_ne, bne_eq_false_iff_eq, Bool.not_eq_true', Bool.not_eq_false', Bool.not_eq_eq_eq_not, Bool.not_true, Bool.not_false, gt_iff_lt, ge_iff_le, Int.not_lt, Int.not_le] at h); simp at h)
  (try simp only [beq_iff_eq, bne_iff_ne, ne_eq, decide_eq_true_eq, decide_eq_false_iff_not, beq_eq_false_iff_ne, bne_eq_false_iff_eq, Bool.not_eq_true', Bool.not_eq_false', Bool.not_eq_eq_eq_not, Bool.not_true, Bool.not_false, gt_iff_lt, ge_iff_le, Int.not_lt, Int.not_le] at h2)
  refine wl_yes rfl rfl ?_
  refine wl_val (r_move rfl) (ltn rfl) ?_
  refine wl_yes rfl rfl ?_
  refine wl_val (r_index Try.underlying24 Try.sizeOf27 rfl rfl (by omega)) (ltn rfl) ?_
  refine wl_yes rfl rfl ?_
  refine wl_val (r_load_elem (k := 2) (ys := [.int .i64 1, .int .i64 10, .int .i64 11]) (H2.row_rd) (by decide) Try.underlying27 rfl Try.sizeOf27 rfl rfl rfl) (ltn rfl) ?_
  refine wl_yes rfl rfl ?_
  refine wl_val (r_build (pl := #[(0, 1), (1, 1), (2, 1)]) (_) Try.underlying27 Try.zeroValue27 (fun w => by kernel_rfl) rfl (rfl)) (ltn rfl) ?_
  refine wl_yes rfl rfl ?_
  refine wl_val (r_known_t (r_wd_eql (c := (1, 10, 11)) (d := (1, 10, 11)) rfl rfl) (by rfl)) (ltn rfl) ?_
  refine wl_val (r_pick_t rfl rfl) (ltn rfl) ?_
  refine wl_val (r_assign rfl) (ltn rfl) ?_
  refine wl_nil ?_
  refine wq_seq ?_
  refine wc_ret ?_
  refine wq_end1 (.inl rfl) Try.results8 rfl ?_
  exact ⟨rfl, H2.right.right⟩
theorem same_runes_any (H : Holds w0 w F) (hv : FRdI w0 F .i32 v l) (hu : FRdI w0 F .i32 u m) : Ret Try.prog 14 #[v, u] w fun r w' => r = .bool (decide (l = m)) ∧ Holds w0 w' F := by
  obtain ⟨-, cv, -, hcv1, hcv2, -⟩ := (hv _ H).open
  refine ret_enter Try.func14 rfl Try.ntmps14 (Nat.le_of_ble_eq_true rfl) ?_
  dsimp only [slots0, Nat.reduceAdd]
  refine wc_seq ?_
  refine wc_region ?_
  refine wl_val (r_assign rfl) (ltn rfl) ?_
  refine wl_nil ?_
  refine wq_seq ?_
  refine wc_seq ?_
  refine wc_seq ?_
  refine wc_region ?_
  refine wl_val (r_move rfl) (ltn rfl) ?_
  refine wl_val (r_lenR (hv _ (H)) Try.underlying22 rfl) (ltn rfl) ?_
  refine wl_val (r_move rfl) (ltn rfl) ?_
  refine wl_val (r_lenR (hu _ (H)) Try.underlying22 rfl) (ltn rfl) ?_
  refine wl_val (r_neq rfl rfl) (ltn rfl) ?_
  refine wl_nil ?_
  refine wq_seq ?_
  refine wc_cond rfl (fun h1 => ?_) (fun h1 => ?_)
  · (try simp only [beq_iff_eq, bne_iff_ne, ne_eq, decide_eq_true_eq, decide_eq_false_iff_not, beq_eq_false_iff_ne, bne_eq_false_iff_eq, Bool.not_eq_true', Bool.not_eq_false', Bool.not_eq_eq_eq_not, Bool.not_true, Bool.not_false, gt_iff_lt, ge_iff_le, Int.not_lt, Int.not_le] at h1)
    have hlen : ¬ l.length = m.length := by omega
    refine wc_seq ?_
    refine wc_region ?_
    refine wl_val (r_assign rfl) (ltn rfl) ?_
    refine wl_nil ?_
    refine wq_seq ?_
    refine wc_ret ?_
    refine wq_then_ret ?_
    refine wq_end1 (.inl rfl) Try.results14 rfl ?_
    exact ⟨by rw [decide_eq_false (fun q => hlen (by rw [q]))], H⟩
  · (try simp only [beq_iff_eq, bne_iff_ne, ne_eq, decide_eq_true_eq, decide_eq_false_iff_not, beq_eq_false_iff_ne, bne_eq_false_iff_eq, Bool.not_eq_true', Bool.not_eq_false', Bool.not_eq_eq_eq_not, Bool.not_true, Bool.not_false, gt_iff_lt, ge_iff_le, Int.not_lt, Int.not_le] at h1)
    have hlen : l.length = m.length := by omega
    refine wc_skip ?_
    refine wq_seq ?_
    refine wc_seq ?_
    refine wc_seq ?_
    refine wc_region ?_
    refine wl_val (r_assign rfl) (ltn rfl) ?_
    refine wl_nil ?_
    refine wq_seq ?_
    refine wc_block ?_
    refine wc_loop [(0, _), (1, _)] (fun (k : Nat) => [(5, .int .i64 (k : Int))]) (fun (k : Nat) W => (k ≤ l.length ∧ ∀ j, j < k → l.getD j 0 = m.getD j 0) ∧ Holds w0 W F) (fun (k : Nat) => l.length - k) (0) (Sub.cons rfl (Sub.cons rfl (Sub.nil _))) (Sub.cons rfl (Sub.nil _)) ⟨⟨by omega, fun j hj => absurd hj (Nat.not_lt_zero _)⟩, H⟩ ?_
    rintro k w1 ⟨⟨hk, hj⟩, HL⟩
    dsimp only [List.cons_append, List.nil_append]
    refine wc_seq ?_
    refine wc_seq ?_
    refine wc_region ?_
    refine wl_val (r_move rfl) (ltn rfl) ?_
    refine wl_val (r_move rfl) (ltn rfl) ?_
    refine wl_val (r_lenR (hv _ (HL)) Try.underlying22 rfl) (ltn rfl) ?_
    refine wl_val (r_lss rfl rfl) (ltn rfl) ?_
    refine wl_nil ?_
    refine wq_seq ?_
    refine wc_cond rfl (fun h2 => ?_) (fun h2 => ?_)
    · (try simp only [beq_iff_eq, bne_iff_ne, ne_eq, decide_eq_true_eq, decide_eq_false_iff_not, beq_eq_false_iff_ne, bne_eq_false_iff_eq, Bool.not_eq_true', Bool.not_eq_false', Bool.not_eq_eq_eq_not, Bool.not_true, Bool.not_false, gt_iff_lt, ge_iff_le, Int.not_lt, Int.not_le] at h2)
      
      refine wc_skip ?_
      refine wq_seq ?_
      refine wc_seq ?_
      refine wc_block ?_
      refine wc_seq ?_
      have hkl : k < l.length := by omega
      have H6d1 := HL.drew
      have hS6d1 := Holds.kp (H6d1)
      refine wd_beginK [3, 7] hS6d1 (by kernel_rfl) (by kernel_rfl) rfl ?_
      refine wd_takeT 0 rfl (by kernel_rfl) (by kernel_rfl) hS6d1 (fun _ => r_move rfl) (ltn rfl) ?_
      refine wd_takeT 1 rfl (by kernel_rfl) (by kernel_rfl) hS6d1 (fun _ => r_move rfl) (ltn rfl) ?_
      obtain ⟨bv, ov, cv, ev⟩ := RdI.posV (hv _ (H6d1)) (by omega)
      cases ev
      refine wd_takeT 2 rfl (by kernel_rfl) (by kernel_rfl) hS6d1 (fun _ => r_index Try.underlying22 Try.sizeOf21 rfl rfl (by omega)) (ltn rfl) ?_
      refine wd_take 3 rfl (by kernel_rfl) (by kernel_rfl) hS6d1 (by decide) (fun W hW => r_load (plain_of Try.underlying21 rfl) rfl (by first | exact RdI.at1n (hv _ ((Kp.h hW))) (by omega) | exact RdI.at0 (hv _ ((Kp.h hW))) (by omega) | exact RdI.at1 (hv _ ((Kp.h hW))) (by omega))) (ltn rfl) ?_
      refine wd_takeT 4 rfl (by kernel_rfl) (by kernel_rfl) hS6d1 (fun _ => r_move rfl) (ltn rfl) ?_
      refine wd_takeT 5 rfl (by kernel_rfl) (by kernel_rfl) hS6d1 (fun _ => r_move rfl) (ltn rfl) ?_
      obtain ⟨bu, ou, cu, eu⟩ := RdI.posV (hu _ (H6d1)) (by omega)
      cases eu
      refine wd_takeT 6 rfl (by kernel_rfl) (by kernel_rfl) hS6d1 (fun _ => r_index Try.underlying22 Try.sizeOf21 rfl rfl (by omega)) (ltn rfl) ?_
      refine wd_take 7 rfl (by kernel_rfl) (by kernel_rfl) hS6d1 (by decide) (fun W hW => r_load (plain_of Try.underlying21 rfl) rfl (by first | exact RdI.at1n (hu _ ((Kp.h hW))) (by omega) | exact RdI.at0 (hu _ ((Kp.h hW))) (by omega) | exact RdI.at1 (hu _ ((Kp.h hW))) (by omega))) (ltn rfl) ?_
      refine wd_takeT 8 rfl (by kernel_rfl) (by kernel_rfl) hS6d1 (fun _ => r_neq rfl rfl) (ltn rfl) ?_
      refine wd_done (by kernel_rfl) ?_
      refine wq_seq ?_
      refine wc_cond rfl (fun h3 => ?_) (fun h3 => ?_)
      · (try simp only [beq_iff_eq, bne_iff_ne, ne_eq, decide_eq_true_eq, decide_eq_false_iff_not, beq_eq_false_iff_ne, bne_eq_false_iff_eq, Bool.not_eq_true', Bool.not_eq_false', Bool.not_eq_eq_eq_not, Bool.not_true, Bool.not_false, gt_iff_lt, ge_iff_le, Int.not_lt, Int.not_le] at h3)
        have hsm : ¬ l.getD k 0 = m.getD k 0 := by simpa using h3
        refine wc_seq ?_
        refine wc_region ?_
        refine wl_val (r_assign rfl) (ltn rfl) ?_
        refine wl_nil ?_
        refine wq_seq ?_
        refine wc_ret ?_
        refine wq_block_ret ?_
        refine wq_then_ret ?_
        refine wq_then_ret ?_
        refine wq_block_ret ?_
        refine wq_then_ret ?_
        refine wq_end1 (.inl rfl) Try.results14 rfl ?_
        exact ⟨by rw [decide_eq_false (fun q => hsm (by rw [q]))], H6d1⟩
      · (try simp only [beq_iff_eq, bne_iff_ne, ne_eq, decide_eq_true_eq, decide_eq_false_iff_not, beq_eq_false_iff_ne, bne_eq_false_iff_eq, Bool.not_eq_true', Bool.not_eq_false', Bool.not_eq_eq_eq_not, Bool.not_true, Bool.not_false, gt_iff_lt, ge_iff_le, Int.not_lt, Int.not_le] at h3)
        have hsm : l.getD k 0 = m.getD k 0 := by simpa using h3
        refine wc_skip ?_
        refine wq_block_normal ?_
        refine wq_seq ?_
        refine wc_region ?_
        refine wl_val (r_move rfl) (ltn rfl) ?_
        refine wl_val (r_add rfl rfl (by omega)) (ltn rfl) ?_
        refine wl_val (r_assign rfl) (ltn rfl) ?_
        refine wl_nil ?_
        refine wq_round (k + 1) ?_ ?_ ?_ ?_
        · exact (Sub.cons rfl (Sub.nil _))
        · exact (Sub.cons rfl (Sub.cons rfl (Sub.nil _)))
        · (try dsimp only)
          exact ⟨⟨by omega, fun j h9 => by rcases Nat.lt_succ_iff_lt_or_eq.1 h9 with h9 | rfl; exact hj j h9; exact hsm⟩, H6d1⟩
        · (try dsimp only); omega
    · (try simp only [beq_iff_eq, bne_iff_ne, ne_eq, decide_eq_true_eq, decide_eq_false_iff_not, beq_eq_false_iff_ne, bne_eq_false_iff_eq, Bool.not_eq_true', Bool.not_eq_false', Bool.not_eq_eq_eq_not, Bool.not_true, Bool.not_false, gt_iff_lt, ge_iff_le, Int.not_lt, Int.not_le] at h2)
      
      refine wc_exit ?_
      refine wq_then_exit ?_
      refine wq_then_exit ?_
      refine wq_block_hit ?_
      refine wq_seq ?_
      refine wc_seq ?_
      refine wc_region ?_
      refine wl_val (r_assign rfl) (ltn rfl) ?_
      refine wl_nil ?_
      refine wq_seq ?_
      refine wc_ret ?_
      refine wq_end1 (.inl rfl) Try.results14 rfl ?_
      refine ⟨?_, HL⟩
      obtain rfl : k = l.length := by omega
      rw [decide_eq_true]
      refine List.ext_getElem hlen fun j h1 h2 => ?_
      have h9 := hj j h1
      rw [List.getD_eq_getElem?_getD, List.getD_eq_getElem?_getD, List.getElem?_eq_getElem h1, List.getElem?_eq_getElem h2] at h9
      simpa using h9
end
end Go.Proofs.Ytgoopiakpbcgoaa
