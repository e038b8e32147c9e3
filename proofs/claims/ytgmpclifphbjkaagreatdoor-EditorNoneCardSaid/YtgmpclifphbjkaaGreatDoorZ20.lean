import Derived.Test.YtgmpclifphbjkaaGreatDoorZ10
import Derived.Test.YtgmpclifphbjkaaGreatDoorZ18
import Derived.Test.YtgmpclifphbjkaaGreatDoorZ2
import Derived.Test.YtgmpclifphbjkaaGreatDoorZ19
import Derived.Test.YtgmpclifphbjkaaGreatDoorCards
import Derived.Test.YtgmpclifphbjkaaGreatDoorZ3
import Derived.SevenTiedAt
/- Texts of mine, joined: ETyM ELive FieldVal LawENone HasENone. -/
section
/- Editors, plainly: what typing, a move, an undo come to. -/
set_option linter.unusedSimpArgs false
set_option linter.unusedVariables false
namespace Go.Proofs.YtgmpclifphbjkaaGreatDoor
open Go.RowKit
/-- An editor between commands: its line, its point, its groups, whether typing goes on with the last one. -/
structure Out (s : EdS) (L : List Int) (pt : Int) (G : List (List EdA)) (run : Bool) : Prop where
  inn : s.inn = false
  L : s.c.L = L
  pt : s.c.pt = pt
  G : s.c.un s.c.place = G
  run : s.c.run = run
  over : s.c.over = false
/-- .. and within a command that has noted nothing yet. -/
structure Inn (s : EdS) (L : List Int) (pt : Int) (G : List (List EdA)) (run : Bool) : Prop where
  inn : s.inn = true
  L : s.c.L = L
  pt : s.c.pt = pt
  G : s.c.un s.c.place = G
  run : s.c.run = run
  over : s.c.over = false
  put : s.put = []
  cls : s.cls = 0
  whole : s.whole = true
section
variable {s : EdS} {L : List Int} {pt : Int} {G : List (List EdA)} {run : Bool} {r : Int}
theorem Out.begin (h : Out s L pt G run) : Inn s.beginS L pt G run ∧ s.beginE = 0 := by
  unfold EdS.beginS EdS.beginE
  rw [if_neg (by rw [h.inn]; decide), if_neg (by rw [h.inn]; decide)]
  exact ⟨⟨rfl, h.L, h.pt, h.G, h.run, h.over, rfl, rfl, rfl⟩, rfl⟩
/-- The groups when x is typed. -/
def typeG (G : List (List EdA)) (run : Bool) (x : EdA) : List (List EdA) := if run then (match G.getLast? with | some g => G.dropLast ++ [g ++ [x]] | none => [[x]]) else G ++ [[x]]
theorem Inn.type_ (h : Inn s L pt G run) (h1 : 0 ≤ pt ∧ pt ≤ L.length) (h2 : L.length < 1024) (h3 : uTot G [] < 16384) :
    s.typeE [r] = 0 ∧ s.typeS [r] = { (s.setBuf (L.take pt.toNat ++ [r] ++ L.drop pt.toNat) (pt + 1) (replM L s.c.mark pt pt [r])) with put := [(pt, [], [r])], cls := 3 } := by
  have hto : s.typeTo [r] = pt := by unfold EdS.typeTo; rw [h.over]; exact h.pt
  have hE : replE L pt pt [r] = 0 := by unfold replE; rw [if_neg (by omega), if_neg (by simp; omega)]
  have hE' : s.replEd s.c.pt (s.typeTo [r]) [r] = 0 := by unfold EdS.replEd; rw [if_pos h.inn, hto, h.pt, h.L]; exact hE
  have hP : replP L pt pt pt [r] = pt + 1 := by unfold replP movedP; rw [if_pos hE, if_neg (by omega), if_pos (by omega)]; rfl
  have hD : replD L pt pt [r] = [] := by unfold replD; rw [if_pos hE]; simp
  have hI : replI L pt pt [r] = [r] := by unfold replI; rw [if_pos hE]
  have hA : replA L pt pt [r] = pt := by unfold replA; rw [if_pos hE]
  have hL : replL L pt pt [r] = L.take pt.toNat ++ [r] ++ L.drop pt.toNat := by unfold replL; rw [if_pos hE]
  have hS : s.replS s.c.pt (s.typeTo [r]) [r] = { (s.setBuf (L.take pt.toNat ++ [r] ++ L.drop pt.toNat) (pt + 1) (replM L s.c.mark pt pt [r])) with put := [(pt, [], [r])] } := by
    unfold EdS.replS
    rw [if_pos h.inn, hto, h.pt, h.L, hP, hD, hI, hA, hL]
    unfold EdS.noteS
    rw [if_neg (by simp), if_neg (by
      show ¬ 16384 ≤ uTot (s.c.un s.c.place) s.put
      rw [h.G, h.put]; omega)]
    show _ = _
    unfold EdS.setBuf
    simp only [h.put, List.nil_append]
  refine ⟨hE', ?_⟩
  unfold EdS.typeS
  rw [if_pos h.inn]
  dsimp only
  rw [if_pos ⟨hE', h.cls⟩, hS]
theorem end0_L (u : EdS) (h : u.inn = true) : (u.endS 0).c.L = u.c.L := by by_cases ha : u.argues = true <;> by_cases hp : u.put = [] <;> by_cases hc : u.cls = 2 <;> simp [EdS.endS, EdS.endGood, EdS.endArg, EdS.flushS, EdS.noArg, EdS.setUn, EdS.flushG, EdS.here, updF_same, ha, hp, hc, h]
theorem end0_pt (u : EdS) (h : u.inn = true) : (u.endS 0).c.pt = u.c.pt := by by_cases ha : u.argues = true <;> by_cases hp : u.put = [] <;> by_cases hc : u.cls = 2 <;> simp [EdS.endS, EdS.endGood, EdS.endArg, EdS.flushS, EdS.noArg, EdS.setUn, EdS.flushG, EdS.here, updF_same, ha, hp, hc, h]
theorem end0_over (u : EdS) (h : u.inn = true) : (u.endS 0).c.over = u.c.over := by by_cases ha : u.argues = true <;> by_cases hp : u.put = [] <;> by_cases hc : u.cls = 2 <;> simp [EdS.endS, EdS.endGood, EdS.endArg, EdS.flushS, EdS.noArg, EdS.setUn, EdS.flushG, EdS.here, updF_same, ha, hp, hc, h]
theorem end0_inn (u : EdS) (h : u.inn = true) : (u.endS 0).inn = false := by by_cases ha : u.argues = true <;> by_cases hp : u.put = [] <;> by_cases hc : u.cls = 2 <;> simp [EdS.endS, EdS.endGood, EdS.endArg, EdS.flushS, EdS.noArg, EdS.setUn, EdS.flushG, EdS.here, updF_same, ha, hp, hc, h]
theorem end0_run (u : EdS) (h : u.inn = true) : (u.endS 0).c.run = (u.typed && (!u.put.isEmpty || u.c.run)) := by by_cases ha : u.argues = true <;> by_cases hp : u.put = [] <;> by_cases hc : u.cls = 2 <;> simp [EdS.endS, EdS.endGood, EdS.endArg, EdS.flushS, EdS.noArg, EdS.setUn, EdS.flushG, EdS.here, updF_same, ha, hp, hc, h]
theorem end0_un (u : EdS) (h : u.inn = true) : (u.endS 0).c.un (u.endS 0).c.place = u.flushG (u.typed && u.c.run) := by by_cases ha : u.argues = true <;> by_cases hp : u.put = [] <;> by_cases hc : u.cls = 2 <;> simp [EdS.endS, EdS.endGood, EdS.endArg, EdS.flushS, EdS.noArg, EdS.setUn, EdS.flushG, EdS.here, updF_same, ha, hp, hc, h]
theorem Inn.typed (h : Inn s L pt G run) (h1 : 0 ≤ pt ∧ pt ≤ L.length) (h2 : L.length < 1024) (h3 : uTot G [] < 16384) :
    Out ((s.typeS [r]).endS 0) (L.take pt.toNat ++ [r] ++ L.drop pt.toNat) (pt + 1) (typeG G run (pt, [], [r])) true ∧ (s.typeS [r]).endE 0 = 0 := by
  obtain ⟨_, e⟩ := h.type_ (r := r) h1 h2 h3
  have hu : (s.typeS [r]).inn = true := by rw [e]; exact h.inn
  have hT : (s.typeS [r]).typed = true := by rw [e]; show (((3 : Int) == 3) && s.whole) = true; rw [h.whole]; rfl
  have hp : (s.typeS [r]).put = [(pt, [], [r])] := by rw [e]
  have hr : (s.typeS [r]).c.run = run := by rw [e]; exact h.run
  have hh : (s.typeS [r]).here = G := by rw [e]; exact h.G
  refine ⟨⟨end0_inn _ hu, (end0_L _ hu).trans (by rw [e]; rfl), (end0_pt _ hu).trans (by rw [e]; rfl), ?_, ?_, (end0_over _ hu).trans (by rw [e]; exact h.over)⟩, by unfold EdS.endE; rw [if_pos hu]⟩
  · rw [end0_un _ hu, hT, hr, Bool.true_and]
    unfold EdS.flushG typeG
    rw [if_neg (by rw [hp]; simp), hp, hh] <;> rfl
  · rw [end0_run _ hu, hT, hp]; rfl
/-- One rune typed, as a command. -/
def typeR (s : EdS) (r : Int) : EdS := (s.beginS.typeS [r]).endS (s.beginS.typeE [r])
theorem Out.typeR (h : Out s L pt G run) (h1 : 0 ≤ pt ∧ pt ≤ L.length) (h2 : L.length < 1024) (h3 : uTot G [] < 16384) :
    Out (typeR s r) (L.take pt.toNat ++ [r] ++ L.drop pt.toNat) (pt + 1) (typeG G run (pt, [], [r])) true := by
  unfold Go.Proofs.YtgmpclifphbjkaaGreatDoor.typeR
  rw [(h.begin.1.type_ (r := r) h1 h2 h3).1]
  exact (h.begin.1.typed h1 h2 h3).1
theorem end_quiet (hi : s.inn = true) (hL : s.c.L = L) (hpt : s.c.pt = pt) (hG : s.here = G) (ho : s.c.over = false) (hp : s.put = []) (hc : s.cls = 0) : Out (s.endS 0) L pt G false := by
  have hT : s.typed = false := by unfold EdS.typed; rw [hc]; rfl
  refine ⟨end0_inn _ hi, (end0_L _ hi).trans hL, (end0_pt _ hi).trans hpt, ?_, ?_, (end0_over _ hi).trans ho⟩
  · rw [end0_un _ hi]; unfold EdS.flushG; rw [if_pos hp]; exact hG
  · rw [end0_run _ hi, hT]; rfl
theorem Inn.end_ (h : Inn s L pt G run) : Out (s.endS 0) L pt G false := end_quiet h.inn h.L h.pt h.G h.over h.put h.cls
theorem Out.move (h : Out s L pt G run) (x : Int) (hx : 0 ≤ x ∧ x ≤ L.length) : Out ((s.beginS.moveS x).endS 0) L x G false := by
  have hb := h.begin.1
  refine Inn.end_ (s := s.beginS.moveS x) (run := run) ?_
  unfold EdS.moveS
  rw [if_pos hb.inn]
  refine ⟨hb.inn, hb.L, ?_, hb.G, hb.run, hb.over, hb.put, hb.cls, hb.whole⟩
  show mvP s.beginS.c.L.length s.beginS.c.pt x = x
  unfold mvP
  rw [if_pos (by rw [hb.L]; omega)]
end
end Go.Proofs.YtgmpclifphbjkaaGreatDoor
end
section
/- Editors: live. -/
set_option linter.unusedSimpArgs false
set_option linter.unusedVariables false
namespace Go.Proofs.YtgmpclifphbjkaaGreatDoor
open Go.RowKit
/-- What the first living case comes to. -/
def liveS : EdS := ((EdS.new [] 1 10).beginS.typeS [97]).endS 0
theorem live_L : liveS.c.L = [97] := by rfl
theorem live_text : (utf8 liveS.c.L).toList = (ByteArray.mk #[97]).toList := by rw [live_L]; exact congrArg ByteArray.toList (by rfl)
theorem live_undoes : liveS.undoes = 1 := by rfl
theorem live_arg : liveS.arg = -1 := by rfl
theorem live_last : liveS.lastS = 3 := by rfl
section
variable {w0 w : World} {F : HP}
theorem live_ret (H : Holds w0 w F) : Ret Tryz.prog 9 #[] w fun v w' => v = .bool true ∧ Holds w0 w' F := by
  refine ret_enter Tryz.func9 rfl Tryz.ntmps9 (Nat.le_of_ble_eq_true rfl) ?_
  dsimp only [slots0, Nat.reduceAdd]
  refine wc_seq ?_
  refine wc_region ?_
  refine wl_val (r_assign rfl) (ltn rfl) ?_
  refine wl_nil ?_
  refine wq_seq ?_
  refine wc_seq ?_
  refine wc_region ?_
  refine wl_eff (e_call (r_call rfl Tryz.func7 rfl rfl) (hist_new_ret H (by omega))) (ltn rfl) ?_
  rintro _ w1 ⟨p1, rfl, H1⟩
  refine wl_val (r_move rfl) (ltn rfl) ?_
  refine wl_val (r_extract rfl rfl) (ltn rfl) ?_
  refine wl_val (r_extract rfl rfl) (ltn rfl) ?_
  refine wl_val (r_assign rfl) (ltn rfl) ?_
  refine wl_val (r_assign rfl) (ltn rfl) ?_
  refine wl_nil ?_
  refine wq_seq ?_
  refine wc_seq ?_
  refine wc_region ?_
  refine wl_val (r_move rfl) (ltn rfl) ?_
  refine wl_eff (e_call (r_call rfl Tryz.func8 rfl rfl) (ed_new_ret H1)) (ltn rfl) ?_
  rintro _ w2 ⟨e2, rfl, H2⟩
  refine wl_val (r_move rfl) (ltn rfl) ?_
  refine wl_val (r_extract rfl rfl) (ltn rfl) ?_
  refine wl_val (r_extract rfl rfl) (ltn rfl) ?_
  refine wl_val (r_assign rfl) (ltn rfl) ?_
  refine wl_val (r_assign rfl) (ltn rfl) ?_
  refine wl_nil ?_
  refine wq_seq ?_
  refine wc_seq ?_
  refine wc_seq ?_
  refine wc_region ?_
  refine wl_val (r_move rfl) (ltn rfl) ?_
  refine wl_val (r_neq rfl rfl) (ltn rfl) ?_
  refine wl_split rfl (ltn rfl) (fun h => by exfalso; (try simp only [cmpS] at h); simp at h) (fun h1 => ?_)
  (try simp only [cmpS] at h1)
  refine wl_yes rfl rfl ?_
  refine wl_val (r_move rfl) (ltn rfl) ?_
  refine wl_yes rfl rfl ?_
  refine wl_val (r_neq rfl rfl) (ltn rfl) ?_
  refine wl_val (r_pick_f rfl rfl) (ltn rfl) ?_
  refine wl_split rfl (ltn rfl) (fun h => by exfalso; (try simp only [cmpS] at h); simp at h) (fun h2 => ?_)
  (try simp only [cmpS] at h2)
  refine wl_yes rfl rfl ?_
  refine wl_val (r_move rfl) (ltn rfl) ?_
  refine wl_yes rfl rfl ?_
  refine wl_val (r_ptr_nil Tryz.underlying28 rfl rfl) (ltn rfl) ?_
  refine wl_val (r_pick_f rfl rfl) (ltn rfl) ?_
  refine wl_nil ?_
  refine wq_seq ?_
  refine wc_cond rfl (fun h => by exfalso; (try simp only [cmpS] at h); simp at h) (fun h3 => ?_)
  (try simp only [cmpS] at h3)
  refine wc_skip ?_
  refine wq_seq ?_
  refine wc_seq ?_
  refine wc_region ?_
  refine wl_val (r_move rfl) (ltn rfl) ?_
  refine wl_eff (e_call (r_call rfl Tryz.func11 rfl rfl) (ed_begin_ret H2)) (ltn rfl) ?_
  rintro _ w3 ⟨rfl, H3⟩
  refine wl_nil ?_
  refine wq_seq ?_
  refine wc_seq ?_
  refine wc_region ?_
  refine wl_val (r_move rfl) (ltn rfl) ?_
  refine wl_eff (e_lit_ints (k := .i32) (l := [97]) H3 Tryz.underlying22 Tryz.sizeOf21 Tryz.zeroValue21 rfl rfl rfl (by decide)) (ltn rfl) ?_
  rintro l4 w4 H4
  refine wl_eff (e_call (r_call rfl Tryz.func21 rfl rfl) (ed_type_ret H4.f2 (fun W HW => (HW).row_rd) (by simp))) (ltn rfl) ?_
  rintro _ w5 ⟨rfl, H5⟩
  refine wl_nil ?_
  refine wq_seq ?_
  refine wc_seq ?_
  refine wc_region ?_
  refine wl_val (r_move rfl) (ltn rfl) ?_
  refine wl_eff (e_call (r_call rfl Tryz.func13 rfl rfl) (ed_end_ret H5)) (ltn rfl) ?_
  rintro _ w6 ⟨rfl, H6⟩
  refine wl_nil ?_
  refine wq_seq ?_
  refine wc_seq ?_
  refine wc_region ?_
  refine wl_val (r_move rfl) (ltn rfl) ?_
  refine wl_eff (e_call (r_call rfl Tryz.func14 rfl rfl) (ed_state_ret H6)) (ltn rfl) ?_
  rintro _ w7 ⟨u7, ks7, us7, sv7, rfl, H7⟩
  refine wl_eff (e_allocL (l := [_, _, _, _, _, _, _, _, _, _, _, _, _, _, _, _, _]) H7 Tryz.zeroValue46 rfl) (ltn rfl) ?_
  rintro _ w8 ⟨b8, rfl, H8⟩
  refine wl_eff0 (e_storePL 0 (l' := [_, _, _, _, _, _, _, _, _, _, _, _, _, _, _, _, _]) (us := [_, _, _, _, _, _, _, _, _, _, _, _, _, _, _, _, _]) H8 Tryz.sizeOf46 rfl rfl rfl (ones_cons (by first | rfl | exact Rd.one ((H8.f2).row_rd)) (ones_cons (by first | rfl | assumption) (ones_cons (by first | rfl | assumption) (ones_cons (by first | rfl | assumption) (ones_cons (by first | rfl | assumption) (ones_cons (by first | rfl | assumption) (ones_cons (by first | rfl | assumption) (ones_cons (by first | rfl | assumption) (ones_cons (by first | rfl | assumption) (ones_cons (by first | rfl | assumption) (ones_cons (by first | rfl | assumption) (ones_cons (by first | rfl | exact Rd.one ((H8.f3).row_rd)) (ones_cons (by first | rfl | assumption) (ones_cons (by first | rfl | exact Rd.one ((H8.f5).row_rd)) (ones_cons (by first | rfl | assumption) (ones_cons (by first | rfl | assumption) (ones_cons (by first | rfl | assumption) ones_nil))))))))))))))))) rfl rfl) ?_
  rintro _ w9 H9
  refine wl_nil ?_
  refine wq_seq ?_
  refine wc_seq ?_
  refine wc_region ?_
  refine wl_val (r_fieldA 0 Tryz.underlying46 rfl rfl Tryz.sizeOf42 (by decide) rfl (by first | exact Nat.zero_add _ | rfl)) (ltn rfl) ?_
  refine wl_val (r_fieldA 0 Tryz.underlying42 rfl rfl Tryz.sizeOf22 (by decide) rfl (by first | exact Nat.zero_add _ | rfl)) (ltn rfl) ?_
  refine wl_val (r_load (plain_of Tryz.underlying22 rfl) rfl (cell_of_blk (H9).get.2 rfl)) (ltn rfl) ?_
  refine wl_val (r_runes_str Tryz.underlying22 Tryz.underlying9 Tryz.underlying21 rfl ((H9.f2).row_rd)) (ltn rfl) ?_
  refine wl_val (r_str_eql rfl rfl) (ltn rfl) ?_
  refine wl_split rfl (ltn rfl) (fun h4 => ?_) (fun h => by exfalso; (try simp only [cmpS] at h); exact h live_text)
  (try simp only [cmpS] at h4)
  refine wl_yes rfl rfl ?_
  refine wl_val (r_fieldA 14 Tryz.underlying46 rfl rfl Tryz.sizeOf3 (by decide) rfl (by first | exact Nat.zero_add _ | rfl)) (ltn rfl) ?_
  refine wl_yes rfl rfl ?_
  refine wl_val (r_load (plain_of Tryz.underlying3 rfl) rfl (cell_of_blk (H9).get.2 rfl)) (ltn rfl) ?_
  refine wl_yes rfl rfl ?_
  refine wl_val (r_eql rfl rfl) (ltn rfl) ?_
  refine wl_val (r_pick_t rfl rfl) (ltn rfl) ?_
  refine wl_split rfl (ltn rfl) (fun h5 => ?_) (fun h => by exfalso; (try simp only [cmpS] at h); exact h live_undoes)
  (try simp only [cmpS] at h5)
  refine wl_yes rfl rfl ?_
  refine wl_val (r_fieldA 7 Tryz.underlying46 rfl rfl Tryz.sizeOf3 (by decide) rfl (by first | exact Nat.zero_add _ | rfl)) (ltn rfl) ?_
  refine wl_yes rfl rfl ?_
  refine wl_val (r_load (plain_of Tryz.underlying3 rfl) rfl (cell_of_blk (H9).get.2 rfl)) (ltn rfl) ?_
  refine wl_yes rfl rfl ?_
  refine wl_val (r_eql rfl rfl) (ltn rfl) ?_
  refine wl_val (r_pick_t rfl rfl) (ltn rfl) ?_
  refine wl_split rfl (ltn rfl) (fun h6 => ?_) (fun h => by exfalso; (try simp only [cmpS] at h); exact h live_arg)
  (try simp only [cmpS] at h6)
  refine wl_yes rfl rfl ?_
  refine wl_val (r_fieldA 8 Tryz.underlying46 rfl rfl Tryz.sizeOf3 (by decide) rfl (by first | exact Nat.zero_add _ | rfl)) (ltn rfl) ?_
  refine wl_yes rfl rfl ?_
  refine wl_val (r_load (plain_of Tryz.underlying3 rfl) rfl (cell_of_blk (H9).get.2 rfl)) (ltn rfl) ?_
  refine wl_yes rfl rfl ?_
  refine wl_val (r_known_t (r_eql rfl rfl) (by exact decide_eq_true live_last)) (ltn rfl) ?_
  refine wl_val (r_pick_t rfl rfl) (ltn rfl) ?_
  refine wl_val (r_assign rfl) (ltn rfl) ?_
  refine wl_nil ?_
  refine wq_seq ?_
  refine wc_ret ?_
  refine wq_end1 (.inl rfl) Tryz.results9 rfl ?_
  exact ⟨rfl, H9.right.right.right.right.right.right.right.right⟩
end
end Go.Proofs.YtgmpclifphbjkaaGreatDoor
end
section
/- A field of a struct in hand. -/
set_option linter.unusedSimpArgs false
set_option linter.unusedVariables false
namespace Go.Proofs.YtgmpclifphbjkaaGreatDoor
open Go.RowKit
end Go.Proofs.YtgmpclifphbjkaaGreatDoor
end
section
/- EditorNone, walked. -/
set_option linter.unusedSimpArgs false
set_option linter.unusedVariables false
namespace Go.Proofs.YtgmpclifphbjkaaGreatDoor
open Go.RowKit
theorem eunmade_nil (w0 : World) (F : HP) : EUnmade w0 F (.pointer none) := fun _ _ _ => ed_none_nil
def zeroEd : List Value := [.pointer none, .pointer none, .pointer none, .map none, .int .i64 0, .bool false, .int .i64 0, .int .i64 0, .int .i64 0, .int .i64 0, .bool false, .pointer none, .pointer none, .bool false, .bool false, .int .i64 0, .bool false, .pointer none, .pointer none, .pointer none, .map none, .int .i64 0, .bool false, .int .i64 0, .int .i64 0, .int .i64 0, .int .i64 0, .bool false, .int .i64 0, .bool false, .bool false, .bool false, .bool false, .slice none 0 0]
theorem hist_clone_nil {w : World} : Ret Tryz.prog 40 #[.pointer none] w fun v w' => v = .pointer none ∧ w = w' := by
  have hn : Ret Tryz.prog 109 #[.pointer none] w fun v w' => v = .bool true ∧ w = w' := by
    refine ret_enter Tryz.func109 rfl Tryz.ntmps109 (Nat.le_of_ble_eq_true rfl) ?_
    dsimp only [slots0, Nat.reduceAdd]
    refine wc_seq ?_
    refine wc_region ?_
    refine wl_val (r_assign rfl) (ltn rfl) ?_
    refine wl_nil ?_
    refine wq_seq ?_
    refine wc_seq ?_
    refine wc_region ?_
    refine wl_val (r_move rfl) (ltn rfl) ?_
    refine wl_val (r_ptr_nil Tryz.underlying24 rfl rfl) (ltn rfl) ?_
    refine wl_split rfl (ltn rfl) (fun h1 => ?_) (fun h => by exfalso; (try simp only [cmpS] at h); simp at h)
    (try simp only [cmpS] at h1)
    refine wl_no rfl rfl rfl (ltn rfl) ?_
    refine wl_no rfl rfl rfl (ltn rfl) ?_
    refine wl_no rfl rfl rfl (ltn rfl) ?_
    refine wl_no rfl rfl rfl (ltn rfl) ?_
    refine wl_no rfl rfl rfl (ltn rfl) ?_
    refine wl_no rfl rfl rfl (ltn rfl) ?_
    refine wl_val (r_pick_t rfl rfl) (ltn rfl) ?_
    refine wl_val (r_assign rfl) (ltn rfl) ?_
    refine wl_nil ?_
    refine wq_seq ?_
    refine wc_ret ?_
    refine wq_end1 (.inl rfl) Tryz.results109 rfl ?_
    exact ⟨rfl, rfl⟩
  refine ret_enter Tryz.func40 rfl Tryz.ntmps40 (Nat.le_of_ble_eq_true rfl) ?_
  dsimp only [slots0, Nat.reduceAdd]
  refine wc_seq ?_
  refine wc_region ?_
  refine wl_val (r_assign rfl) (ltn rfl) ?_
  refine wl_nil ?_
  refine wq_seq ?_
  refine wc_seq ?_
  refine wc_seq ?_
  refine wc_region ?_
  refine wl_val (r_move rfl) (ltn rfl) ?_
  refine wl_eff (e_call (r_call rfl Tryz.func109 rfl rfl) (hn)) (ltn rfl) ?_
  rintro _ _ ⟨rfl, rfl⟩
  refine wl_nil ?_
  refine wq_seq ?_
  refine wc_cond_t rfl ?_
  refine wc_seq ?_
  refine wc_region ?_
  refine wl_val (r_assign rfl) (ltn rfl) ?_
  refine wl_nil ?_
  refine wq_seq ?_
  refine wc_ret ?_
  refine wq_then_ret ?_
  refine wq_end1 (.inl rfl) Tryz.results40 rfl ?_
  exact ⟨rfl, rfl⟩
theorem ed_new_nil {w : World} : Ret Tryz.prog 8 #[.pointer none] w fun v w' => v = .tuple #[.pointer none, .int .i64 2] ∧ w = w' := by
  refine ret_enter Tryz.func8 rfl Tryz.ntmps8 (Nat.le_of_ble_eq_true rfl) ?_
  dsimp only [slots0, Nat.reduceAdd]
  refine wc_seq ?_
  refine wc_region ?_
  refine wl_val (r_assign rfl) (ltn rfl) ?_
  refine wl_val (r_assign rfl) (ltn rfl) ?_
  refine wl_nil ?_
  refine wq_seq ?_
  refine wc_seq ?_
  refine wc_seq ?_
  refine wc_region ?_
  refine wl_val (r_move rfl) (ltn rfl) ?_
  refine wl_eff (e_call (r_call rfl Tryz.func40 rfl rfl) (hist_clone_nil)) (ltn rfl) ?_
  rintro _ _ ⟨rfl, rfl⟩
  refine wl_val (r_ptr_nil Tryz.underlying24 rfl rfl) (ltn rfl) ?_
  refine wl_nil ?_
  refine wq_seq ?_
  refine wc_cond rfl (fun h1 => ?_) (fun h => by exfalso; (try simp only [cmpS] at h); simp at h)
  (try simp only [cmpS] at h1)
  refine wc_seq ?_
  refine wc_region ?_
  refine wl_val (r_assign rfl) (ltn rfl) ?_
  refine wl_val (r_assign rfl) (ltn rfl) ?_
  refine wl_nil ?_
  refine wq_seq ?_
  refine wc_ret ?_
  refine wq_then_ret ?_
  refine wq_end2 (.inl rfl) Tryz.results8 rfl rfl ?_
  exact ⟨rfl, rfl⟩
theorem editor_none {w : World} {x0 x1 x2 : Int} {x3 : Bool} {tx : Value} :
    Ret Tryz.prog 5 #[.agg #[.int .i64 x0, .int .i64 x1, .int .i64 x2, .bool x3, tx]] w fun v w' => v = .bool true ∧ Below w.heap.size w w' := by
  obtain ⟨F, H⟩ : ∃ F, Holds w w F := ⟨_, Holds.start w⟩
  refine ret_enter Tryz.func5 rfl Tryz.ntmps5 (Nat.le_of_ble_eq_true rfl) ?_
  dsimp only [slots0, Nat.reduceAdd]
  refine wc_seq ?_
  refine wc_region ?_
  refine wl_eff (e_boxL (l := [_, _, _, _, _]) H rfl rfl) (ltn rfl) ?_
  rintro _ w1 ⟨b1, rfl, H1⟩
  refine wl_val (r_assign rfl) (ltn rfl) ?_
  refine wl_nil ?_
  refine wq_seq ?_
  refine wc_seq ?_
  refine wc_seq ?_
  refine wc_region ?_
  refine wl_eff (e_call (r_call rfl Tryz.func9 rfl rfl) (live_ret H1)) (ltn rfl) ?_
  rintro _ w2 ⟨rfl, H2⟩
  refine wl_val (r_not rfl) (ltn rfl) ?_
  refine wl_nil ?_
  refine wq_seq ?_
  refine wc_cond rfl (fun h => by exfalso; (try simp only [cmpS] at h); simp at h) (fun h1 => ?_)
  (try simp only [cmpS] at h1)
  refine wc_skip ?_
  refine wq_seq ?_
  refine wc_seq ?_
  refine wc_seq ?_
  refine wc_region ?_
  refine wl_val (r_buildL (zl := [.pointer none, .pointer none, .pointer none, .map none, .int .i64 0, .bool false, .int .i64 0, .int .i64 0, .int .i64 0, .int .i64 0, .bool false, .pointer none, .pointer none, .bool false, .bool false, .int .i64 0, .bool false, .pointer none, .pointer none, .pointer none, .map none, .int .i64 0, .bool false, .int .i64 0, .int .i64 0, .int .i64 0, .int .i64 0, .bool false, .int .i64 0, .bool false, .bool false, .bool false, .bool false, .slice none 0 0]) (pl := [(0, 11), (11, 1), (12, 1), (13, 1), (14, 1), (15, 1), (16, 1), (17, 11), (28, 1), (29, 1), (30, 1), (31, 1), (32, 1), (33, 1)]) [_, _, _, _, _, _, _, _, _, _, _, _, _, _, _, _, _, _, _, _, _, _, _, _, _, _, _, _, _, _, _, _, _, _] Tryz.underlying66 Tryz.zeroValue66 rfl (fun w => by kernel_rfl) rfl (.zero (zs := [.pointer none, .pointer none, .pointer none, .map none, .int .i64 0, .bool false, .int .i64 0, .int .i64 0, .int .i64 0, .int .i64 0, .bool false]) rfl (.zero (zs := [.pointer none]) rfl (.zero (zs := [.pointer none]) rfl (.zero (zs := [.bool false]) rfl (.zero (zs := [.bool false]) rfl (.zero (zs := [.int .i64 0]) rfl (.zero (zs := [.bool false]) rfl (.zero (zs := [.pointer none, .pointer none, .pointer none, .map none, .int .i64 0, .bool false, .int .i64 0, .int .i64 0, .int .i64 0, .int .i64 0, .bool false]) rfl (.zero (zs := [.int .i64 0]) rfl (.zero (zs := [.bool false]) rfl (.zero (zs := [.bool false]) rfl (.zero (zs := [.bool false]) rfl (.zero (zs := [.bool false]) rfl (.zero (zs := [.slice none 0 0]) rfl .nil)))))))))))))) rfl) (ltn rfl) ?_
  refine wl_eff (e_boxL (l := [_, _, _, _, _, _, _, _, _, _, _, _, _, _, _, _, _, _, _, _, _, _, _, _, _, _, _, _, _, _, _, _, _, _]) H2 rfl rfl) (ltn rfl) ?_
  rintro _ w3 ⟨b3, rfl, H3⟩
  refine wl_eff (e_lit_row (vs := [.pointer none, _]) H3 Tryz.underlying67 Tryz.sizeOf28 Tryz.zeroValue28 rfl rfl rfl (by decide) (ones_cons (by first | rfl | assumption) (ones_cons (by first | rfl | assumption) ones_nil))) (ltn rfl) ?_
  rintro l4 w4 H4
  refine wl_val (r_lenS ((H4).row_rd) Tryz.underlying67 rfl) (ltn rfl) ?_
  refine wl_val (r_move rfl) (ltn rfl) ?_
  refine wl_nil ?_
  refine wq_seq ?_
  refine wc_block ?_
  refine wc_loop [(1, _), (11, _), (12, _)] (fun (k : Nat) => [(13, .int .i64 (k : Int))]) (fun (k : Nat) W => k ≤ 2 ∧ Holds w W (Row 28 1 l4 2 [.pointer none, .pointer (some ⟨b3, 0, none⟩)] • blk b3 (.cells zeroEd.toArray 66 (0, 0)) • blk b1 (.cells #[.int .i64 x0, .int .i64 x1, .int .i64 x2, .bool x3, tx] 38 (0, 0)) • F)) (fun (k : Nat) => 2 - k) (0) (Sub.cons rfl (Sub.cons rfl (Sub.cons rfl (Sub.nil _)))) (Sub.cons rfl (Sub.nil _)) ⟨by omega, H4.f3.f3.f3⟩ ?_
  rintro k w5 ⟨hk, HL⟩
  dsimp only [List.cons_append, List.nil_append]
  refine wc_seq ?_
  refine wc_region ?_
  refine wl_val (r_lss rfl rfl) (ltn rfl) ?_
  refine wl_nil ?_
  refine wq_seq ?_
  refine wc_seq ?_
  refine wc_cond rfl (fun h2 => ?_) (fun h2 => ?_)
  · (try simp only [cmpS] at h2)
    
    refine wc_skip ?_
    refine wq_seq ?_
    refine wc_seq ?_
    refine wc_block ?_
    refine wc_seq ?_
    refine wc_region ?_
    obtain ⟨bl4, ol4, cl4, el4⟩ := Rd.posV ((HL).row_rd) (by omega)
    cases el4
    refine wl_val (r_index Tryz.underlying67 Tryz.sizeOf28 rfl rfl (by omega)) (ltn rfl) ?_
    refine wl_val (r_load (plain_of Tryz.underlying28 rfl) rfl (by first | exact Rd.at1n ((HL).row_rd) (by omega) | exact Rd.at0 ((HL).row_rd) (by omega) | exact Rd.at1 ((HL).row_rd) (by omega))) (ltn rfl) ?_
    refine wl_val (r_assign rfl) (ltn rfl) ?_
    refine wl_nil ?_
    refine wq_seq ?_
    refine wc_seq ?_
    refine wc_seq ?_
    have hk2 : k < 2 := by omega
    have hu : EUnmade w (blk b3 (.cells zeroEd.toArray 66 (0, 0)) • blk b1 (.cells #[.int .i64 x0, .int .i64 x1, .int .i64 x2, .bool x3, tx] 38 (0, 0)) • F) ([Value.pointer none, .pointer (some ⟨b3, 0, none⟩)].getD k undef) := by
      rcases (show k = 0 ∨ k = 1 from by omega) with rfl | rfl
      · exact eunmade_nil _ _
      · exact fun G W HW => enone_zero HW.swap rfl
    refine wc_region ?_
    refine wl_val (r_move rfl) (ltn rfl) ?_
    refine wl_eff (e_call (r_call rfl Tryz.func11 rfl rfl) (enone_begin HL.f3.f3.f3 hu)) (ltn rfl) ?_
    rintro _ _ ⟨rfl, rfl⟩
    refine wl_val (r_neq rfl rfl) (ltn rfl) ?_
    refine wl_split rfl (ltn rfl) (fun h => by exfalso; (try simp only [cmpS] at h); simp at h) (fun h3 => ?_)
    (try simp only [cmpS] at h3)
    refine wl_yes rfl rfl ?_
    refine wl_val (r_move rfl) (ltn rfl) ?_
    refine wl_yes rfl rfl ?_
    refine wl_eff (e_call (r_call rfl Tryz.func13 rfl rfl) (enone_end HL.f3.f3.f3 hu)) (ltn rfl) ?_
    rintro _ _ ⟨rfl, rfl⟩
    refine wl_yes rfl rfl ?_
    refine wl_val (r_neq rfl rfl) (ltn rfl) ?_
    refine wl_val (r_pick_f rfl rfl) (ltn rfl) ?_
    refine wl_split rfl (ltn rfl) (fun h => by exfalso; (try simp only [cmpS] at h); simp at h) (fun h4 => ?_)
    (try simp only [cmpS] at h4)
    refine wl_yes rfl rfl ?_
    refine wl_val (r_move rfl) (ltn rfl) ?_
    refine wl_yes rfl rfl ?_
    refine wl_val (r_fieldA 4 Tryz.underlying38 rfl rfl Tryz.sizeOf22 (by decide) rfl (by first | exact Nat.zero_add _ | rfl)) (ltn rfl) ?_
    refine wl_yes rfl rfl ?_
    refine wl_val (r_load (plain_of Tryz.underlying22 rfl) rfl (cell_of_blk (HL.f3).get.2 rfl)) (ltn rfl) ?_
    refine wl_yes rfl rfl ?_
    refine wl_eff (e_call (r_call rfl Tryz.func21 rfl rfl) (enone_type HL.f3.f3.f3 hu)) (ltn rfl) ?_
    rintro _ _ ⟨rfl, rfl⟩
    refine wl_yes rfl rfl ?_
    refine wl_val (r_neq rfl rfl) (ltn rfl) ?_
    refine wl_val (r_pick_f rfl rfl) (ltn rfl) ?_
    refine wl_split rfl (ltn rfl) (fun h => by exfalso; (try simp only [cmpS] at h); simp at h) (fun h5 => ?_)
    (try simp only [cmpS] at h5)
    refine wl_yes rfl rfl ?_
    refine wl_val (r_move rfl) (ltn rfl) ?_
    refine wl_yes rfl rfl ?_
    refine wl_val (r_fieldA 1 Tryz.underlying38 rfl rfl Tryz.sizeOf3 (by decide) rfl (by first | exact Nat.zero_add _ | rfl)) (ltn rfl) ?_
    refine wl_yes rfl rfl ?_
    refine wl_val (r_load (plain_of Tryz.underlying3 rfl) rfl (cell_of_blk (HL.f3).get.2 rfl)) (ltn rfl) ?_
    refine wl_yes rfl rfl ?_
    refine wl_val (r_fieldA 2 Tryz.underlying38 rfl rfl Tryz.sizeOf3 (by decide) rfl (by first | exact Nat.zero_add _ | rfl)) (ltn rfl) ?_
    refine wl_yes rfl rfl ?_
    refine wl_val (r_load (plain_of Tryz.underlying3 rfl) rfl (cell_of_blk (HL.f3).get.2 rfl)) (ltn rfl) ?_
    refine wl_yes rfl rfl ?_
    refine wl_val (r_fieldA 3 Tryz.underlying38 rfl rfl Tryz.sizeOf4 (by decide) rfl (by first | exact Nat.zero_add _ | rfl)) (ltn rfl) ?_
    refine wl_yes rfl rfl ?_
    refine wl_val (r_load (plain_of Tryz.underlying4 rfl) rfl (cell_of_blk (HL.f3).get.2 rfl)) (ltn rfl) ?_
    refine wl_yes rfl rfl ?_
    refine wl_eff (e_call (r_call rfl Tryz.func22 rfl rfl) (enone_kill HL.f3.f3.f3 hu)) (ltn rfl) ?_
    rintro _ _ ⟨rfl, rfl⟩
    refine wl_yes rfl rfl ?_
    refine wl_val (r_neq rfl rfl) (ltn rfl) ?_
    refine wl_val (r_pick_f rfl rfl) (ltn rfl) ?_
    refine wl_split rfl (ltn rfl) (fun h => by exfalso; (try simp only [cmpS] at h); simp at h) (fun h6 => ?_)
    (try simp only [cmpS] at h6)
    refine wl_yes rfl rfl ?_
    refine wl_val (r_move rfl) (ltn rfl) ?_
    refine wl_yes rfl rfl ?_
    refine wl_eff (e_call (r_call rfl Tryz.func23 rfl rfl) (enone_yank HL.f3.f3.f3 hu)) (ltn rfl) ?_
    rintro _ _ ⟨rfl, rfl⟩
    refine wl_yes rfl rfl ?_
    refine wl_val (r_neq rfl rfl) (ltn rfl) ?_
    refine wl_val (r_pick_f rfl rfl) (ltn rfl) ?_
    refine wl_split rfl (ltn rfl) (fun h => by exfalso; (try simp only [cmpS] at h); simp at h) (fun h7 => ?_)
    (try simp only [cmpS] at h7)
    refine wl_yes rfl rfl ?_
    refine wl_val (r_move rfl) (ltn rfl) ?_
    refine wl_yes rfl rfl ?_
    refine wl_eff (e_call (r_call rfl Tryz.func24 rfl rfl) (enone_pop HL.f3.f3.f3 hu)) (ltn rfl) ?_
    rintro _ _ ⟨rfl, rfl⟩
    refine wl_yes rfl rfl ?_
    refine wl_val (r_neq rfl rfl) (ltn rfl) ?_
    refine wl_val (r_pick_f rfl rfl) (ltn rfl) ?_
    refine wl_split rfl (ltn rfl) (fun h => by exfalso; (try simp only [cmpS] at h); simp at h) (fun h8 => ?_)
    (try simp only [cmpS] at h8)
    refine wl_yes rfl rfl ?_
    refine wl_val (r_move rfl) (ltn rfl) ?_
    refine wl_yes rfl rfl ?_
    refine wl_eff (e_call (r_call rfl Tryz.func25 rfl rfl) (enone_move HL.f3.f3.f3 hu)) (ltn rfl) ?_
    rintro _ _ ⟨rfl, rfl⟩
    refine wl_yes rfl rfl ?_
    refine wl_val (r_neq rfl rfl) (ltn rfl) ?_
    refine wl_val (r_pick_f rfl rfl) (ltn rfl) ?_
    refine wl_split rfl (ltn rfl) (fun h => by exfalso; (try simp only [cmpS] at h); simp at h) (fun h9 => ?_)
    (try simp only [cmpS] at h9)
    refine wl_yes rfl rfl ?_
    refine wl_val (r_move rfl) (ltn rfl) ?_
    refine wl_yes rfl rfl ?_
    refine wl_eff (e_call (r_call rfl Tryz.func15 rfl rfl) (enone_undo HL.f3.f3.f3 hu)) (ltn rfl) ?_
    rintro _ _ ⟨rfl, rfl⟩
    refine wl_yes rfl rfl ?_
    refine wl_val (r_neq rfl rfl) (ltn rfl) ?_
    refine wl_val (r_pick_f rfl rfl) (ltn rfl) ?_
    refine wl_split rfl (ltn rfl) (fun h => by exfalso; (try simp only [cmpS] at h); simp at h) (fun h10 => ?_)
    (try simp only [cmpS] at h10)
    refine wl_yes rfl rfl ?_
    refine wl_val (r_move rfl) (ltn rfl) ?_
    refine wl_yes rfl rfl ?_
    refine wl_eff (e_call (r_call rfl Tryz.func26 rfl rfl) (enone_goto HL.f3.f3.f3 hu)) (ltn rfl) ?_
    rintro _ _ ⟨rfl, rfl⟩
    refine wl_yes rfl rfl ?_
    refine wl_val (r_neq rfl rfl) (ltn rfl) ?_
    refine wl_val (r_pick_f rfl rfl) (ltn rfl) ?_
    refine wl_nil ?_
    refine wq_seq ?_
    refine wc_cond rfl (fun h => by exfalso; (try simp only [cmpS] at h); simp at h) (fun h11 => ?_)
    (try simp only [cmpS] at h11)
    refine wc_skip ?_
    refine wq_seq ?_
    refine wc_seq ?_
    refine wc_region ?_
    refine wl_val (r_move rfl) (ltn rfl) ?_
    refine wl_eff (e_call (r_call rfl Tryz.func27 rfl rfl) (enone_digit HL.f3.f3.f3 hu)) (ltn rfl) ?_
    rintro _ _ ⟨rfl, rfl⟩
    refine wl_val (r_neq rfl rfl) (ltn rfl) ?_
    refine wl_split rfl (ltn rfl) (fun h => by exfalso; (try simp only [cmpS] at h); simp at h) (fun h12 => ?_)
    (try simp only [cmpS] at h12)
    refine wl_yes rfl rfl ?_
    refine wl_val (r_move rfl) (ltn rfl) ?_
    refine wl_yes rfl rfl ?_
    refine wl_eff (e_call (r_call rfl Tryz.func28 rfl rfl) (enone_setmode HL.f3.f3.f3 hu)) (ltn rfl) ?_
    rintro _ _ ⟨rfl, rfl⟩
    refine wl_yes rfl rfl ?_
    refine wl_val (r_neq rfl rfl) (ltn rfl) ?_
    refine wl_val (r_pick_f rfl rfl) (ltn rfl) ?_
    refine wl_split rfl (ltn rfl) (fun h => by exfalso; (try simp only [cmpS] at h); simp at h) (fun h13 => ?_)
    (try simp only [cmpS] at h13)
    refine wl_yes rfl rfl ?_
    refine wl_val (r_move rfl) (ltn rfl) ?_
    refine wl_yes rfl rfl ?_
    refine wl_eff (e_call (r_call rfl Tryz.func29 rfl rfl) (enone_finish HL.f3.f3.f3 hu)) (ltn rfl) ?_
    rintro _ _ ⟨rfl, rfl⟩
    refine wl_yes rfl rfl ?_
    refine wl_val (r_neq rfl rfl) (ltn rfl) ?_
    refine wl_val (r_pick_f rfl rfl) (ltn rfl) ?_
    refine wl_split rfl (ltn rfl) (fun h => by exfalso; (try simp only [cmpS] at h); simp at h) (fun h14 => ?_)
    (try simp only [cmpS] at h14)
    refine wl_yes rfl rfl ?_
    refine wl_val (r_move rfl) (ltn rfl) ?_
    refine wl_yes rfl rfl ?_
    refine wl_eff (e_call (r_call rfl Tryz.func30 rfl rfl) (enone_count HL.f3.f3.f3 hu)) (ltn rfl) ?_
    rintro _ _ ⟨rfl, rfl⟩
    refine wl_yes rfl rfl ?_
    refine wl_val (r_neq rfl rfl) (ltn rfl) ?_
    refine wl_val (r_pick_f rfl rfl) (ltn rfl) ?_
    refine wl_split rfl (ltn rfl) (fun h => by exfalso; (try simp only [cmpS] at h); simp at h) (fun h15 => ?_)
    (try simp only [cmpS] at h15)
    refine wl_yes rfl rfl ?_
    refine wl_val (r_move rfl) (ltn rfl) ?_
    refine wl_yes rfl rfl ?_
    refine wl_eff (e_call (r_call rfl Tryz.func31 rfl rfl) (enone_given HL.f3.f3.f3 hu)) (ltn rfl) ?_
    rintro _ _ ⟨rfl, rfl⟩
    refine wl_val (r_pick_f rfl rfl) (ltn rfl) ?_
    refine wl_val (r_move rfl) (ltn rfl) ?_
    refine wl_yes rfl rfl ?_
    refine wl_val (r_move rfl) (ltn rfl) ?_
    refine wl_yes rfl rfl ?_
    refine wl_eff (e_call (r_call rfl Tryz.func32 rfl rfl) (enone_kills HL.f3.f3.f3 hu)) (ltn rfl) ?_
    rintro _ _ ⟨rfl, rfl⟩
    refine wl_yes rfl rfl ?_
    refine wl_val (r_len Tryz.underlying43 rfl) (ltn rfl) ?_
    refine wl_yes rfl rfl ?_
    refine wl_val (r_neq rfl rfl) (ltn rfl) ?_
    refine wl_val (r_pick_f rfl rfl) (ltn rfl) ?_
    refine wl_split rfl (ltn rfl) (fun h => by exfalso; (try simp only [cmpS] at h); simp at h) (fun h16 => ?_)
    (try simp only [cmpS] at h16)
    refine wl_yes rfl rfl ?_
    refine wl_val (r_move rfl) (ltn rfl) ?_
    refine wl_yes rfl rfl ?_
    refine wl_eff (e_call (r_call rfl Tryz.func14 rfl rfl) (enone_state HL.f3.f3.f3 hu)) (ltn rfl) ?_
    rintro _ w21 ⟨rfl, H21⟩
    refine wl_yes rfl rfl ?_
    refine wl_val (r_buildL (zl := [.slice none 0 0, .int .i64 0, .int .i64 0, .int .i64 0, .bool false, .bool false, .bool false, .int .i64 0, .int .i64 0, .int .i64 0, .int .i64 0, .slice none 0 0, .int .i64 0, .slice none 0 0, .int .i64 0, .int .i64 0, .int .i64 0]) (pl := [(0, 3), (3, 1), (4, 1), (5, 1), (6, 1), (7, 1), (8, 1), (9, 1), (10, 1), (11, 1), (12, 1), (13, 1), (14, 1), (15, 1), (16, 1)]) [_, _, _, _, _, _, _, _, _, _, _, _, _, _, _, _, _] Tryz.underlying46 Tryz.zeroValue46 rfl (fun w => by kernel_rfl) rfl (.zero (zs := [.slice none 0 0, .int .i64 0, .int .i64 0]) rfl (.zero (zs := [.int .i64 0]) rfl (.zero (zs := [.bool false]) rfl (.zero (zs := [.bool false]) rfl (.zero (zs := [.bool false]) rfl (.zero (zs := [.int .i64 0]) rfl (.zero (zs := [.int .i64 0]) rfl (.zero (zs := [.int .i64 0]) rfl (.zero (zs := [.int .i64 0]) rfl (.zero (zs := [.slice none 0 0]) rfl (.zero (zs := [.int .i64 0]) rfl (.zero (zs := [.slice none 0 0]) rfl (.zero (zs := [.int .i64 0]) rfl (.zero (zs := [.int .i64 0]) rfl (.zero (zs := [.int .i64 0]) rfl .nil))))))))))))))) rfl) (ltn rfl) ?_
    refine wl_yes rfl rfl ?_
    refine wl_eff (e_call (r_call rfl Tryz.func20 rfl rfl) (same_zero_ret H21)) (ltn rfl) ?_
    rintro _ w22 ⟨rfl, H22⟩
    refine wl_yes rfl rfl ?_
    refine wl_val (r_not rfl) (ltn rfl) ?_
    refine wl_val (r_pick_f rfl rfl) (ltn rfl) ?_
    refine wl_split rfl (ltn rfl) (fun h => by exfalso; (try simp only [cmpS] at h); simp at h) (fun h17 => ?_)
    (try simp only [cmpS] at h17)
    refine wl_yes rfl rfl ?_
    refine wl_val (r_move rfl) (ltn rfl) ?_
    refine wl_yes rfl rfl ?_
    refine wl_eff (e_call (r_call rfl Tryz.func33 rfl rfl) (enone_history H22.f3.f3.f3 hu)) (ltn rfl) ?_
    rintro _ _ ⟨rfl, rfl⟩
    refine wl_yes rfl rfl ?_
    refine wl_val (r_ptr_nnil Tryz.underlying24 rfl rfl) (ltn rfl) ?_
    refine wl_val (r_pick_f rfl rfl) (ltn rfl) ?_
    refine wl_split rfl (ltn rfl) (fun h => by exfalso; (try simp only [cmpS] at h); simp at h) (fun h18 => ?_)
    (try simp only [cmpS] at h18)
    refine wl_yes rfl rfl ?_
    refine wl_val (r_move rfl) (ltn rfl) ?_
    refine wl_yes rfl rfl ?_
    refine wl_eff (e_call (r_call rfl Tryz.func34 rfl rfl) (enone_clone H22.f3.f3.f3 hu)) (ltn rfl) ?_
    rintro _ _ ⟨rfl, rfl⟩
    refine wl_yes rfl rfl ?_
    refine wl_val (r_ptr_nnil Tryz.underlying28 rfl rfl) (ltn rfl) ?_
    refine wl_val (r_pick_f rfl rfl) (ltn rfl) ?_
    refine wl_split rfl (ltn rfl) (fun h => by exfalso; (try simp only [cmpS] at h); simp at h) (fun h19 => ?_)
    (try simp only [cmpS] at h19)
    refine wl_yes rfl rfl ?_
    refine wl_val (r_move rfl) (ltn rfl) ?_
    refine wl_yes rfl rfl ?_
    refine wl_eff (e_call (r_call rfl Tryz.func10 rfl rfl) (enone_start H22.f3.f3.f3 hu)) (ltn rfl) ?_
    rintro _ _ ⟨rfl, rfl⟩
    refine wl_yes rfl rfl ?_
    refine wl_val (r_neq rfl rfl) (ltn rfl) ?_
    refine wl_val (r_pick_f rfl rfl) (ltn rfl) ?_
    refine wl_nil ?_
    refine wq_seq ?_
    refine wc_cond rfl (fun h => by exfalso; (try simp only [cmpS] at h); simp at h) (fun h20 => ?_)
    (try simp only [cmpS] at h20)
    refine wc_skip ?_
    refine wq_block_normal ?_
    refine wq_seq ?_
    refine wc_region ?_
    refine wl_val (r_add rfl rfl (by omega)) (ltn rfl) ?_
    refine wl_val (r_move rfl) (ltn rfl) ?_
    refine wl_nil ?_
    refine wq_round (k + 1) ?_ ?_ ?_ ?_
    · exact (Sub.cons rfl (Sub.nil _))
    · exact (Sub.cons rfl (Sub.cons rfl (Sub.cons rfl (Sub.nil _))))
    · (try dsimp only)
      first | done | exact ⟨by omega, H22.f3.f3.f3⟩
    · (try dsimp only); omega
  · (try simp only [cmpS] at h2)
    
    refine wc_exit ?_
    refine wq_then_exit ?_
    refine wq_then_exit ?_
    refine wq_block_hit ?_
    refine wq_seq ?_
    refine wc_seq ?_
    refine wc_region ?_
    refine wl_eff (e_call (r_call rfl Tryz.func8 rfl rfl) (ed_new_nil)) (ltn rfl) ?_
    rintro _ _ ⟨rfl, rfl⟩
    refine wl_val (r_move rfl) (ltn rfl) ?_
    refine wl_val (r_extract rfl rfl) (ltn rfl) ?_
    refine wl_val (r_extract rfl rfl) (ltn rfl) ?_
    refine wl_val (r_assign rfl) (ltn rfl) ?_
    refine wl_val (r_assign rfl) (ltn rfl) ?_
    refine wl_nil ?_
    refine wq_seq ?_
    refine wc_seq ?_
    refine wc_region ?_
    refine wl_val (r_move rfl) (ltn rfl) ?_
    refine wl_val (r_ptr_nil Tryz.underlying28 rfl rfl) (ltn rfl) ?_
    refine wl_split rfl (ltn rfl) (fun h21 => ?_) (fun h => by exfalso; (try simp only [cmpS] at h); simp at h)
    (try simp only [cmpS] at h21)
    refine wl_yes rfl rfl ?_
    refine wl_val (r_move rfl) (ltn rfl) ?_
    refine wl_yes rfl rfl ?_
    refine wl_val (r_eql rfl rfl) (ltn rfl) ?_
    refine wl_val (r_pick_t rfl rfl) (ltn rfl) ?_
    refine wl_val (r_assign rfl) (ltn rfl) ?_
    refine wl_nil ?_
    refine wq_seq ?_
    refine wc_ret ?_
    refine wq_end1 (.inl rfl) Tryz.results5 rfl ?_
    exact ⟨rfl, HL.base⟩
end Go.Proofs.YtgmpclifphbjkaaGreatDoor
end
section
/- EditorNone: the row, the card. -/
set_option linter.unusedVariables false
namespace Go.Proofs.YtgmpclifphbjkaaGreatDoor
open Go.ChangeShapes Go.WideShapes Go.ChangeAt Go.RowKit

set_option maxRecDepth 100000 in
theorem editorNone_lifted (os : Os) (started : os.Started) (H : Type) (enc : TypeId × Value → H) :
    ReturnsInHanded {} Tryz.checked os 5 .any (fun w args => (Rows.editorNoneSpec.pre enc Tryz.prog Tryz.f5 Rows.editorNoneRow.domain false w args ∧ laidMetH Tryz.prog laid4 w) ∧ sizedMet enc Tryz.prog Tryz.f5 (OpenSpec.ofChange Rows.editorNoneSpec) false w args) (Rows.editorNoneSpec.post enc Tryz.prog Tryz.f5 false true false false) := by
  refine law_lift_laid (C := Tryz.checked) (tb := 4) _ own laid started (by kernel_rfl) Tryz.func5 (congrArg Array.toList Tryz.params5) rfl Tryz.underlying4 rfl (by kernel_rfl) (fun ds hd => ?_)
    (ChangeSpec.witness_shaped (enc := enc) (C := Tryz.checked) (os := os) (X := fun w _ => laidMetH Tryz.prog laid4 w) false (World.laidAll Tryz.prog os laid4) #[.agg #[.int .i64 0, .int .i64 0, .int .i64 0, .bool false, .slice none 0 0]] 8 (World.laidAll_os _ _ _) (World.shaped_of_ZipB (by kernel_rfl) (by kernel_rfl)) (by kernel_rfl) (by kernel_rfl) (by kernel_rfl) (laid_met os _)) ?_
  · obtain ⟨a0, rfl⟩ := len_one hd
    rfl
  intro W args hL hin
  have hT := tabs_of hL
  obtain ⟨v1, rfl, ⟨_, o1⟩, i1⟩ := hin.one
  obtain ⟨cs, rfl, -⟩ := okWide_struct Tryz.underlying38 o1
  obtain ⟨x0, x1, x2, x3, v4, x4, e, -⟩ := part_in i1
  obtain rfl : cs = #[.int .i64 x0, .int .i64 x1, .int .i64 x2, .bool x3, v4] := Array.ext' e
  exact editor_none

theorem editorNone_proved : Rows.EditorNoneSaid :=
  OpenClaim.holds_of_wide 5 Tryz.f5 rfl rfl rfl rfl rfl rfl rfl ⟨rfl, rfl, rfl, rfl, rfl⟩ rfl rfl rfl rfl rfl (by kernel_rfl) Tryz.func5 (by kernel_rfl)
    (of_decide_eq_true (by kernel_rfl)) (by unfold Func.isWrapper; first | (rw [if_pos (by decide +kernel)]; kernel_rfl) | (rw [if_neg (by decide +kernel)]; exact ⟨rfl, rfl⟩))
    (fun os started H enc _ => editorNone_lifted os started H enc)
theorem editorNone_card : Rows.EditorNoneCardSaid :=
  Claim7.holds_tied_plain_at .later [] [.data, .pinned] true (true, "e57ec22d5011dd699b23356e973d0f3726ab5e1591670ca2b34591d57076bf6d") false
    editorNone_proved (fun _ h => by cases h) (by kernel_rfl) (fun _ h => by cases h) editorNone_row_tie rfl ⟨rfl, rfl⟩ (by kernel_rfl) rfl
    (fun f fn hf hfn => by
      obtain rfl : f = 5 := Option.some.inj ((show Tryz.prog.funcNamed "lanyard/lanyardlaw17.EditorNone" = some 5 by kernel_rfl).symm.trans hf) |>.symm
      obtain rfl : fn = Tryz.f5 := (Option.some.inj (Tryz.func5.symm.trans hfn)).symm
      exact ⟨by kernel_rfl, fun j t ht => by
        rw [Tryz.params5] at ht
        have hm : t ∈ [38] := by simpa using Array.mem_of_getElem? ht
        have hall : ([38].all fun u => !Tryz.prog.wantsStandIn u) = true := by kernel_rfl
        exact (show Tryz.prog.wantsStandIn t = false by simpa using List.all_eq_true.1 hall t hm)⟩)
    (by kernel_rfl)
end Go.Proofs.YtgmpclifphbjkaaGreatDoor
end
