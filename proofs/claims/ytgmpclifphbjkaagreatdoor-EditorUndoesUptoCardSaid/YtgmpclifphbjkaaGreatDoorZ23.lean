import Derived.Test.YtgmpclifphbjkaaGreatDoorZ22
import Derived.Test.YtgmpclifphbjkaaGreatDoorZ16
import Derived.Test.YtgmpclifphbjkaaGreatDoorZ17
import Derived.Test.YtgmpclifphbjkaaGreatDoorZ10
/- Texts of mine, joined: ETyM2 EdSt EKillM EUndoM Owns EdS. -/
section
/- Editors, plainly: what typing a text comes to, and undoing it. -/
set_option linter.unusedSimpArgs false
set_option linter.unusedVariables false
namespace Go.Proofs.YtgmpclifphbjkaaGreatDoor
open Go.RowKit
/-- A text typed, as the list of edits. -/
def grp (p : Int) : List Int → List EdA
  | [] => []
  | r :: l => (p, [], [r]) :: grp (p + 1) l
theorem grp_snoc (p : Int) (l : List Int) (r : Int) : grp p (l ++ [r]) = grp p l ++ [(p + l.length, [], [r])] := by
  induction l generalizing p with
  | nil => simp [grp]
  | cons x l ih => simp only [List.cons_append, grp, ih, List.length_cons]; rw [show p + 1 + (l.length : Int) = p + ((l.length + 1 : Nat) : Int) from by omega]
theorem grp_len (p : Int) (l : List Int) : (grp p l).length = l.length := by induction l generalizing p with
  | nil => rfl
  | cons x l ih => simp [grp, ih]
def withG (G : List (List EdA)) (p : Int) (l : List Int) : List (List EdA) := if l = [] then G else G ++ [grp p l]
theorem withG_tot (G : List (List EdA)) (p : Int) (l : List Int) : uTot (withG G p l) [] = uTot G [] + l.length := by
  unfold withG uTot; split
  · rename_i h; subst h; simp
  · simp [grp_len]
theorem typeG_with (G : List (List EdA)) (p : Int) (l : List Int) (r : Int) : typeG (withG G p l) (!l.isEmpty) (p + l.length, [], [r]) = withG G p (l ++ [r]) := by
  unfold typeG withG
  rw [if_neg (show l ++ [r] ≠ [] by simp)]
  cases l with
  | nil => simp [grp]
  | cons x l => rw [if_neg (show ¬ x :: l = [] by simp)]; simp only [List.isEmpty_cons, Bool.not_false, if_true, List.getLast?_append, List.getLast?_singleton, Option.some_or, List.dropLast_concat, grp_snoc]
theorem beginS_inn (s : EdS) : s.beginS.inn = true := by unfold EdS.beginS; split; assumption; rfl
theorem flushS_inn (s : EdS) (b : Bool) : (s.flushS b).inn = s.inn := by unfold EdS.flushS; split <;> rfl
theorem undoS_inn (s : EdS) : s.undoS.inn = s.inn := by
  unfold EdS.undoS; dsimp only; split
  · split <;> exact flushS_inn s false
  · rfl
theorem endE_inn {s : EdS} (h : s.inn = true) (x : Int) : s.endE x = x := by unfold EdS.endE; rw [if_pos h]
section
variable {s : EdS} {L : List Int} {pt : Int} {G : List (List EdA)} {run : Bool} {r : Int}
def typeL (s : EdS) (l : List Int) : EdS := l.foldl typeR s
theorem Out.typeL (h : Out s L pt G false) (h1 : 0 ≤ pt ∧ pt ≤ L.length) (l : List Int) (h2 : L.length + l.length ≤ 1024) (h3 : uTot G [] + l.length ≤ 16384) :
    Out (typeL s l) (L.take pt.toNat ++ l ++ L.drop pt.toNat) (pt + l.length) (withG G pt l) (!l.isEmpty) := by
  suffices hh : ∀ n (l : List Int), l.length = n → L.length + n ≤ 1024 → uTot G [] + n ≤ 16384 → Out (Go.Proofs.YtgmpclifphbjkaaGreatDoor.typeL s l) (L.take pt.toNat ++ l ++ L.drop pt.toNat) (pt + l.length) (withG G pt l) (!l.isEmpty) from hh _ l rfl h2 h3
  intro n
  induction n with
  | zero =>
    intro l hn _ _
    obtain rfl := List.length_eq_zero_iff.1 hn
    simpa [withG, Go.Proofs.YtgmpclifphbjkaaGreatDoor.typeL] using h
  | succ n ih =>
    intro l hn h2 h3
    rcases List.eq_nil_or_concat l with rfl | ⟨l, r, rfl⟩
    · cases hn
    rw [List.concat_eq_append] at hn ⊢
    have hn2 : l.length = n := by simpa using hn
    have h4 := ih l hn2 (by omega) (by omega)
    have hl : (L.take pt.toNat ++ l ++ L.drop pt.toNat).length = L.length + l.length := by simp; omega
    have h5 := h4.typeR (r := r) (by rw [hl]; omega) (by rw [hl]; omega) (by rw [withG_tot]; omega)
    have e1 : (L.take pt.toNat ++ l ++ L.drop pt.toNat).take (pt + l.length).toNat = L.take pt.toNat ++ l := by
      rw [List.take_append_of_le_length (by simp; omega), List.take_of_length_le (by simp; omega)]
    have e2 : (L.take pt.toNat ++ l ++ L.drop pt.toNat).drop (pt + l.length).toNat = L.drop pt.toNat := by
      rw [List.drop_append_of_le_length (by simp; omega), List.drop_of_length_le (by simp; omega), List.nil_append]
    rw [e1, e2, typeG_with] at h5
    have e3 : Go.Proofs.YtgmpclifphbjkaaGreatDoor.typeL s (l ++ [r]) = Go.Proofs.YtgmpclifphbjkaaGreatDoor.typeR (Go.Proofs.YtgmpclifphbjkaaGreatDoor.typeL s l) r := by unfold Go.Proofs.YtgmpclifphbjkaaGreatDoor.typeL; rw [List.foldl_append]; rfl
    rw [e3]
    rw [show pt + ((l ++ [r]).length : Int) = pt + l.length + 1 from by simp; omega, show (!(l ++ [r]).isEmpty) = true from by simp, ← List.append_assoc]
    exact h5
/-- An inserted rune taken out again. -/
theorem app1_out (A B : List Int) (p m : Int) (r : Int) (h : A.length + B.length ≤ 1024) : ∃ p' m', EdS.app1 (A ++ r :: B, p, m) ((A.length : Int), [r], []) = (A ++ B, p', m') := by
  refine ⟨_, _, Prod.ext ?_ rfl⟩
  show appL (A ++ r :: B) (A.length : Int) [r] [] = A ++ B
  have hr : replE (A ++ r :: B) (A.length : Int) (A.length + ([r].length : Int)) [] = 0 := by
    unfold replE; rw [if_neg (by simp; omega), if_neg (by simp; omega)]
  have hf : fitsE (A ++ r :: B) (A.length : Int) [r] = true := by
    unfold fitsE; simp; omega
  have he : appE (A ++ r :: B) (A.length : Int) [r] [] = 0 := by unfold appE; rw [if_neg (by simp; omega), hf]; exact hr
  unfold appL replL
  rw [if_pos he, if_pos hr]
  rw [show (A.length + ([r].length : Int)).toNat = A.length + 1 from by simp, show (A.length : Int).toNat = A.length from by omega]
  rw [List.take_left, show A.length + 1 = (A ++ [r]).length from by simp, show A ++ r :: B = (A ++ [r]) ++ B from by simp, List.drop_left]
  simp
theorem apps_grp (l : List Int) (A B : List Int) (p m : Int) (h : A.length + l.length + B.length ≤ 1024) : ∃ p' m', EdS.apps (A ++ l ++ B, p, m) ((grp (A.length : Int) l).reverse.map invA) = (A ++ B, p', m') := by
  induction l generalizing A p m with
  | nil => exact ⟨p, m, by simp [grp, EdS.apps]⟩
  | cons r l ih =>
    rw [List.length_cons] at h
    obtain ⟨p1, m1, e1⟩ := ih (A ++ [r]) p m (by simp; omega)
    rw [List.length_append, List.length_singleton] at e1
    have e2 : A ++ r :: l ++ B = A ++ [r] ++ l ++ B := by simp
    show ∃ p' m', EdS.apps (A ++ r :: l ++ B, p, m) (((((A.length : Int), [], [r]) :: grp ((A.length : Int) + 1) l).reverse).map invA) = _
    rw [List.reverse_cons, List.map_append, e2]
    unfold EdS.apps at e1 ⊢
    rw [List.foldl_append]
    rw [show ((A.length + 1 : Nat) : Int) = (A.length : Int) + 1 from by omega] at e1
    rw [e1, List.append_assoc, List.singleton_append]
    exact app1_out A B p1 m1 r (by omega)
theorem Out.undo {A B l : List Int} (h : Out s (A ++ l ++ B) pt (withG G A.length l) run) (hl : l ≠ []) (hn : A.length + l.length + B.length ≤ 1024) :
    s.beginS.undoE = 0 ∧ ∃ pt', Out (s.beginS.undoS.endS 0) (A ++ B) pt' G false := by
  have hb := h.begin.1
  have hw : withG G A.length l = G ++ [grp A.length l] := by unfold withG; rw [if_neg hl]
  have hf : s.beginS.flushS false = s.beginS := by unfold EdS.flushS; rw [if_pos hb.put]
  have hh : s.beginS.here = G ++ [grp A.length l] := hb.G.trans hw
  obtain ⟨p', m', e⟩ := apps_grp l A B pt s.beginS.c.mark hn
  refine ⟨by unfold EdS.undoE; rw [if_pos hb.inn, hf, hh, if_neg (by simp)], p', ?_⟩
  have eU : s.beginS.undoS = ((s.beginS.setUn G).setBuf (A ++ B) p' m').unWhole := by
    unfold EdS.undoS
    rw [if_pos hb.inn]
    dsimp only
    rw [hf, if_neg (by rw [hh]; simp), hh, List.dropLast_concat]
    rw [show (G ++ [grp (A.length : Int) l]).getLastD [] = grp A.length l from by simp]
    unfold EdS.appsS
    rw [show ((s.beginS.setUn G).c.L, (s.beginS.setUn G).c.pt, (s.beginS.setUn G).c.mark) = (A ++ l ++ B, pt, s.beginS.c.mark) from by rw [← hb.L, ← hb.pt]; rfl, e]
  rw [eU]
  exact end_quiet hb.inn rfl rfl (updF_same _ _ _) hb.over hb.put hb.cls
end
end Go.Proofs.YtgmpclifphbjkaaGreatDoor
end
section
/- Editors: Start. -/
set_option linter.unusedSimpArgs false
set_option linter.unusedVariables false
namespace Go.Proofs.YtgmpclifphbjkaaGreatDoor
open Go.RowKit
def EdS.startE (s : EdS) (l : List Int) : Int := if s.inn then 1 else if 1024 < l.length then 3 else 0
def EdS.startS (s : EdS) (hl : List HLn) (base most : Int) (l : List Int) : EdS := if s.startE l = 0 then s.start hl base most l else s
theorem start_ok {s : EdS} (h : EdSOk s) (hi : s.inn = false) (hl : List HLn) (base most : Int) (l : List Int) : EdSOk (s.start hl base most l) := by
  obtain ⟨h1, h2, h3, h4, h5, h6⟩ := h
  refine ⟨fresh_ok _ _ _ _ _, fun h => absurd (show s.inn = true from h) (by rw [hi]; decide), ⟨by show (-1 : Int) ≤ -1; decide, by show (-1 : Int) ≤ 1000000; decide⟩, h4, ?_, by simp [EdS.start, CoreS.fresh]⟩
  show uTot [] s.put ≤ 16384
  unfold uTot at *; simp at *; omega
section
variable {w0 w : World} {F : HP} {e p h pr : Nat} {s : EdS} {hl : List HLn} {base most m : Int} {v : Value} {l : List Int}
theorem ed_start_ret (H : Holds w0 w (EdRep e s • HistRep h hl base most • F)) (hr : FRdI w0 F .i32 v l) : Ret Tryz.prog 10 #[.pointer (some ⟨e, 0, none⟩), .pointer (some ⟨h, 0, none⟩), v] w fun v' w' =>
    v' = .int .i64 (s.startE l) ∧ Holds w0 w' (EdRep e (s.startS hl base most l) • HistRep h hl base most • F) := by
  unfold EdS.startS
  refine ret_enter Tryz.func10 rfl Tryz.ntmps10 (Nat.le_of_ble_eq_true rfl) ?_
  dsimp only [slots0, Nat.reduceAdd]
  refine wc_seq ?_
  refine wc_region ?_
  refine wl_val (r_assign rfl) (ltn rfl) ?_
  refine wl_nil ?_
  refine wq_seq ?_
  refine wc_seq ?_
  refine wc_block ?_
  refine wc_seq ?_
  refine wc_region ?_
  refine wl_val (r_move rfl) (ltn rfl) ?_
  refine wl_eff (e_call (r_call rfl Tryz.func43 rfl rfl) (ed_none_ret H)) (ltn rfl) ?_
  rintro _ _ ⟨rfl, rfl⟩
  refine wl_val (r_move rfl) (ltn rfl) ?_
  refine wl_yes rfl rfl ?_
  refine wl_val (r_move rfl) (ltn rfl) ?_
  refine wl_yes rfl rfl ?_
  refine wl_eff (e_call (r_call rfl Tryz.func40 rfl rfl) (hist_clone_ret H.f2)) (ltn rfl) ?_
  rintro _ w2 ⟨q2, rfl, H2⟩
  refine wl_yes rfl rfl ?_
  refine wl_val (r_ptr_nil Tryz.underlying24 rfl rfl) (ltn rfl) ?_
  refine wl_val (r_pick_f rfl rfl) (ltn rfl) ?_
  refine wl_val (r_assign rfl) (ltn rfl) ?_
  refine wl_nil ?_
  refine wq_seq ?_
  refine wc_cond rfl (fun h => by exfalso; (try simp only [cmpS] at h); simp at h) (fun h1 => ?_)
  (try simp only [cmpS] at h1)
  refine wc_seq ?_
  have Hd3 := H2.right
  obtain ⟨pb_e, pr_e, pw_e, pt_e, pm_e, ph_e, bl_e, pv_e, es_e, u0_e, u1_e, u2_e, u3_e, u4_e, u5_e, u6_e, u7_e, u8_e, u9_e, ua_e, ok_e, says_e, plen_e, HE_e⟩ := (Hd3.f2).edO
  refine wc_region ?_
  refine wl_val (r_move rfl) (ltn rfl) ?_
  refine wl_val (r_nil rfl) (ltn rfl) ?_
  refine wl_val (r_fieldA 16 Tryz.underlying66 rfl rfl Tryz.sizeOf4 (by decide) rfl (by first | exact Nat.zero_add _ | rfl)) (ltn rfl) ?_
  refine wl_val (r_load (plain_of Tryz.underlying4 rfl) rfl (cell_of_blk (HE_e).get.2 rfl)) (ltn rfl) ?_
  refine wl_val (r_assign rfl) (ltn rfl) ?_
  refine wl_nil ?_
  refine wq_seq ?_
  refine wc_cond rfl (fun h2 => ?_) (fun h2 => ?_)
  · (try simp only [cmpS] at h2)
    have hin := h2
    have hE : s.startE l = 1 := by unfold EdS.startE; rw [if_pos hin]
    refine wc_seq ?_
    refine wc_region ?_
    refine wl_val (r_assign rfl) (ltn rfl) ?_
    refine wl_nil ?_
    refine wq_seq ?_
    refine wc_ret ?_
    refine wq_block_ret ?_
    refine wq_then_ret ?_
    refine wq_end1 (.inl rfl) Tryz.results10 rfl ?_
    have Ho6 := HE_e.f11.f11.f11.f11.f11.f11.f11.f11.f11.f11.f11
    have Hc7 := Holds.mk_ed (s := s) ok_e says_e Ho6
    exact ⟨by rw [hE], by rw [if_neg (by rw [hE]; decide)]; exact Hc7.f2.f2⟩
  · (try simp only [cmpS] at h2)
    have hin : s.inn = false := by simpa using h2
    refine wc_seq ?_
    refine wc_region ?_
    refine wl_val (r_move rfl) (ltn rfl) ?_
    refine wl_val (r_lenR (hr _ (HE_e.right.right.right.right.right.right.right.right.right.right.right.right)) Tryz.underlying22 rfl) (ltn rfl) ?_
    refine wl_val (r_gtr rfl rfl) (ltn rfl) ?_
    refine wl_val (r_assign rfl) (ltn rfl) ?_
    refine wl_nil ?_
    refine wq_seq ?_
    refine wc_cond rfl (fun h3 => ?_) (fun h3 => ?_)
    · (try simp only [cmpS] at h3)
      have hbig := h3
      have hE : s.startE l = 3 := by unfold EdS.startE; rw [if_neg (by simp [hin]), if_pos (by omega)]
      refine wc_seq ?_
      refine wc_region ?_
      refine wl_val (r_assign rfl) (ltn rfl) ?_
      refine wl_nil ?_
      refine wq_seq ?_
      refine wc_ret ?_
      refine wq_block_ret ?_
      refine wq_then_ret ?_
      refine wq_end1 (.inl rfl) Tryz.results10 rfl ?_
      have Ho9 := HE_e.f11.f11.f11.f11.f11.f11.f11.f11.f11.f11.f11
      have Hc10 := Holds.mk_ed (s := s) ok_e says_e Ho9
      exact ⟨by rw [hE], by rw [if_neg (by rw [hE]; decide)]; exact Hc10.f2.f2⟩
    · (try simp only [cmpS] at h3)
      have hE : s.startE l = 0 := by unfold EdS.startE; rw [if_neg (by simp [hin]), if_neg (by have h9 := h3; omega)]
      have hsh : l.length ≤ 1024 := by have h9 := h3; omega
      refine wc_skip ?_
      refine wq_block_normal ?_
      refine wq_seq ?_
      refine wc_seq ?_
      refine wc_region ?_
      refine wl_val (r_move rfl) (ltn rfl) ?_
      refine wl_val (r_move rfl) (ltn rfl) ?_
      refine wl_val (r_move rfl) (ltn rfl) ?_
      refine wl_eff (e_call (r_call rfl Tryz.func42 rfl rfl) (ed_begins_ret (E := s.c.E) (a := s.c.at_) HE_e.f2.right.f3.right.f3.right.f3.right.f3.right.f6.f6.f6.f6.f6.f7.f7 (fun W HW => hr W HW.right.right.right.right.right) hsh)) (ltn rfl) ?_
      rintro _ w11 ⟨qb, qw, qt, qm, qh, H11⟩
      refine wl_nil ?_
      refine wq_seq ?_
      refine wc_seq ?_
      refine wc_region ?_
      refine wl_val (r_assign rfl) (ltn rfl) ?_
      refine wl_nil ?_
      refine wq_seq ?_
      refine wc_ret ?_
      refine wq_end1 (.inl rfl) Tryz.results10 rfl ?_
      exact ⟨by rw [hE], by rw [if_pos hE]; exact Holds.mk_ed (s := s.start hl base most l) (start_ok ok_e hin _ _ _ _) says_e H11.f7.f12.f12.f12.f12.f11.f11.f11.f11.f12.f12.f12⟩
end
end Go.Proofs.YtgmpclifphbjkaaGreatDoor
end
section
/- Editors, plainly: kills that follow one another. -/
set_option linter.unusedSimpArgs false
set_option linter.unusedVariables false
namespace Go.Proofs.YtgmpclifphbjkaaGreatDoor
open Go.RowKit
section
variable {s : EdS}
theorem noteS_c (s : EdS) (x : EdA) : (s.noteS x).c.L = s.c.L ∧ (s.noteS x).c.pt = s.c.pt ∧ (s.noteS x).c.mark = s.c.mark ∧ (s.noteS x).c.E = s.c.E ∧ (s.noteS x).c.at_ = s.c.at_ ∧ (s.noteS x).inn = s.inn ∧ (s.noteS x).cls = s.cls ∧ (s.noteS x).was = s.was := by
  unfold EdS.noteS
  split
  · simp
  · split <;> simp [EdS.setUn]
theorem replS_c (h : s.inn = true) (i j : Int) (l : List Int) : (s.replS i j l).c.L = replL s.c.L i j l ∧ (s.replS i j l).c.pt = replP s.c.L s.c.pt i j l ∧ (s.replS i j l).c.mark = replM s.c.L s.c.mark i j l ∧ (s.replS i j l).c.E = s.c.E ∧ (s.replS i j l).c.at_ = s.c.at_ ∧ (s.replS i j l).inn = true ∧ (s.replS i j l).cls = s.cls ∧ (s.replS i j l).was = s.was := by
  unfold EdS.replS
  rw [if_pos h]
  obtain ⟨h1, h2, h3, h4, h5, h6, h7, h8⟩ := noteS_c (s.setBuf (replL s.c.L i j l) (replP s.c.L s.c.pt i j l) (replM s.c.L s.c.mark i j l)) (replA s.c.L i j l, replD s.c.L i j l, replI s.c.L i j l)
  exact ⟨h1, h2, h3, h4, h5, h6.trans h, h7, h8⟩
theorem kill_c (h : s.inn = true) {i j : Int} {back : Bool} (hi : 0 ≤ i ∧ i ≤ j ∧ j ≤ s.c.L.length) (hL : s.c.L.length ≤ 1024) (hk : (s.killK i j back).1 = 0) (hp : i ≤ s.c.pt ∧ s.c.pt ≤ j) :
    (s.killS i j back).c.L = s.c.L.take i.toNat ++ s.c.L.drop j.toNat ∧ (s.killS i j back).c.pt = i ∧ (s.killS i j back).c.E = (s.killK i j back).2.1 ∧ (s.killS i j back).c.at_ = (s.killK i j back).2.2 ∧ (s.killS i j back).inn = true ∧ (s.killS i j back).cls = 1 := by
  have hc : s.copyE i j back = 0 := by
    unfold EdS.copyE
    rw [if_pos h, if_neg (by unfold EdS.copyBad; omega), hk]
  have hE : replE s.c.L i j [] = 0 := by unfold replE; rw [if_neg (by omega), if_neg (by simp; omega)]
  unfold EdS.killS
  rw [if_pos hc]
  have e : s.copyS i j back = { s.setRing (s.killK i j back).2.1 (s.killK i j back).2.2 with killed := true, cls := 1 } := by unfold EdS.copyS; rw [if_pos hc]
  have ei : (s.copyS i j back).inn = true := by rw [e]; exact h
  obtain ⟨h1, h2, h3, h4, h5, h6, h7, h8⟩ := replS_c ei i j []
  refine ⟨h1.trans ?_, h2.trans ?_, h4.trans (by rw [e]; rfl), h5.trans (by rw [e]; rfl), h6, h7.trans (by rw [e])⟩
  · rw [show (s.copyS i j back).c.L = s.c.L from by rw [e]; rfl]
    unfold replL
    rw [if_pos hE]; simp
  · rw [show (s.copyS i j back).c.L = s.c.L from by rw [e]; rfl, show (s.copyS i j back).c.pt = s.c.pt from by rw [e]; rfl]
    unfold replP movedP
    rw [if_pos hE]
    simp only [List.length_nil]
    split <;> (try split) <;> omega
end
/-- Kills that followed one another took A from a to b. -/
structure KOut (s : EdS) (A : List Int) (a b : Int) : Prop where
  inn : s.inn = false
  ok : 0 ≤ a ∧ a ≤ b ∧ b ≤ A.length
  L : s.c.L = A.take a.toNat ++ A.drop b.toNat
  pt : s.c.pt = a
  ring : (s.c.E = [] ∧ a = b) ∨ (s.c.E = [(A.drop a.toNat).take (b.toNat - a.toNat)] ∧ s.c.at_ = 0 ∧ s.c.last = 1)
section
variable {s : EdS} {A : List Int} {a b k : Int}
theorem KOut.len (h : KOut s A a b) : (s.c.L.length : Int) = A.length - (b - a) := by
  have := h.ok
  rw [h.L]; simp; omega
theorem begin_c (s : EdS) : s.beginS.c = s.c := by unfold EdS.beginS; split <;> rfl
theorem killK_ring (h : KOut s A a b) (hA : A.length ≤ 1024) {i j : Int} {back : Bool} {l : List Int} (hcut : s.beginS.cut i j = l) (hl : l.length + (b - a) ≤ A.length) :
    (s.beginS.killK i j back).1 = 0 ∧ ((s.beginS.killK i j back).2.1 = [] ∧ l = [] ∧ a = b ∨ (s.beginS.killK i j back).2.1 = [if back then l ++ (A.drop a.toNat).take (b.toNat - a.toNat) else (A.drop a.toNat).take (b.toNat - a.toNat) ++ l] ∧ (s.beginS.killK i j back).2.2 = 0) := by
  have ho := h.ok
  have hb : s.beginS.killed = false := by unfold EdS.beginS; rw [if_neg (by rw [h.inn]; decide)]
  unfold EdS.killK
  rw [hcut, begin_c]
  rcases h.ring with ⟨h1, h2⟩ | ⟨h1, h2, h3⟩
  · rw [h1]
    have hx : (A.drop a.toNat).take (b.toNat - a.toNat) = [] := by rw [h2]; simp
    have hw : s.beginS.way back = 0 ∨ s.beginS.way back = 1 ∨ s.beginS.way back = 2 := by unfold EdS.way; split <;> (try split) <;> simp
    unfold killM
    rw [if_neg (by omega), if_neg (by omega), if_neg (by simp)]
    split
    · rename_i h4
      exact ⟨rfl, .inl ⟨rfl, List.length_eq_zero_iff.1 h4.2, h2⟩⟩
    · rw [hx]
      exact ⟨rfl, .inr ⟨by cases back <;> simp, rfl⟩⟩
  · rw [h1, h2]
    have hw : s.beginS.way back = if back then 2 else 1 := by unfold EdS.way; rw [if_pos (by rw [begin_c]; exact .inl h3)]
    have hlen : ((A.drop a.toNat).take (b.toNat - a.toNat)).length = b.toNat - a.toNat := by simp; omega
    rw [hw]
    unfold killM
    rw [if_neg (by cases back <;> simp), if_neg (by omega), if_pos (by cases back <;> simp), if_neg (by simp only [List.getD_cons_zero]; omega)]
    exact ⟨rfl, .inr ⟨by cases back <;> simp, rfl⟩⟩
theorem KOut.step (h : KOut s A a b) (hA : A.length ≤ 1024) {i j a' b' : Int} {back : Bool} {l : List Int} (hij : 0 ≤ i ∧ i ≤ j ∧ j ≤ s.c.L.length) (hp : i ≤ a ∧ a ≤ j) (hcut : s.beginS.cut i j = l) (hl : l.length + (b - a) ≤ A.length)
    (ho : 0 ≤ a' ∧ a' ≤ b' ∧ b' ≤ A.length) (hi : i = a') (hL : s.c.L.take i.toNat ++ s.c.L.drop j.toNat = A.take a'.toNat ++ A.drop b'.toNat) (he : l = [] → a = b → a' = b')
    (hx : (if back then l ++ (A.drop a.toNat).take (b.toNat - a.toNat) else (A.drop a.toNat).take (b.toNat - a.toNat) ++ l) = (A.drop a'.toNat).take (b'.toNat - a'.toNat)) :
    KOut ((s.beginS.killS i j back).endS 0) A a' b' := by
  obtain ⟨h1, h2⟩ := killK_ring h hA (back := back) hcut hl
  have hlen := h.len
  have hok := h.ok
  obtain ⟨k1, k2, k3, k4, k5, k6⟩ := kill_c (s := s.beginS) (beginS_inn s) (i := i) (j := j) (back := back) (by rw [begin_c]; exact hij) (by rw [begin_c]; omega) h1 (by rw [begin_c, h.pt]; exact hp)
  rw [begin_c] at k1
  refine ⟨end0_inn _ k5, ho, (end0_L _ k5).trans (k1.trans hL), (end0_pt _ k5).trans (k2.trans hi), ?_⟩
  rw [end0_E _ k5, end0_at _ k5, end0_last _ k5, k3, k4, k6]
  rcases h2 with ⟨q1, q2, q3⟩ | ⟨q1, q2⟩
  · exact .inl ⟨q1, he q2 q3⟩
  · exact .inr ⟨by rw [q1, hx], q2, rfl⟩
theorem KOut.back (h : KOut s A a b) (hA : A.length ≤ 1024) (hk : 0 ≤ k ∧ k ≤ a) : KOut ((s.beginS.killS (s.beginS.c.pt - k) s.beginS.c.pt true).endS 0) A (a - k) b := by
  have hlen := h.len
  have hok := h.ok
  rw [begin_c, h.pt]
  have e1 : s.beginS.cut (a - k) a = (A.drop (a - k).toNat).take k.toNat := by
    unfold EdS.cut
    rw [begin_c, h.L, List.drop_append_of_le_length (by simp; omega), List.take_append_of_le_length (by simp; omega), List.drop_take]
    rw [List.take_take]; congr 1; omega
  refine h.step hA (l := (A.drop (a - k).toNat).take k.toNat) (by omega) (by omega) e1 (by simp; omega) (by omega) rfl ?_ ?_ ?_
  · rw [h.L, List.take_append_of_le_length (by simp; omega), List.take_take, List.drop_append, List.drop_of_length_le (by simp; omega), List.nil_append]
    rw [show min (a - k).toNat a.toNat = (a - k).toNat from by omega, show a.toNat - (A.take a.toNat).length = 0 from by simp; omega, List.drop_zero]
  · intro h1 h2
    have h3 := congrArg List.length h1
    simp at h3; omega
  · simp only [if_true]
    rw [show (A.drop a.toNat).take (b.toNat - a.toNat) = ((A.drop (a - k).toNat).drop k.toNat).take (b.toNat - a.toNat) from by rw [List.drop_drop]; congr 2; omega, show b.toNat - (a - k).toNat = k.toNat + (b.toNat - a.toNat) from by omega, List.take_add]
end
end Go.Proofs.YtgmpclifphbjkaaGreatDoor
end
section
/- EditorUndoes, plainly. -/
set_option linter.unusedSimpArgs false
set_option linter.unusedVariables false
namespace Go.Proofs.YtgmpclifphbjkaaGreatDoor
open Go.RowKit
/-- A text with edits taken back. -/
def bk (L : List Int) (xs : List EdA) : List Int := (xs.reverse.map invA).foldl (fun L x => appL L x.1 x.2.1 x.2.2) L
theorem bk_snoc (L : List Int) (xs : List EdA) (x : EdA) : bk L (xs ++ [x]) = bk (appL L x.1 x.2.2 x.2.1) xs := by
  unfold bk; rw [List.reverse_append]; rfl
theorem bk_append (L : List Int) (xs ys : List EdA) : bk L (xs ++ ys) = bk (bk L ys) xs := by
  unfold bk; rw [List.reverse_append, List.map_append, List.foldl_append]
theorem apps_fst (L : List Int) (p m : Int) (l : List EdA) : (EdS.apps (L, p, m) l).1 = l.foldl (fun L x => appL L x.1 x.2.1 x.2.2) L := by
  unfold EdS.apps
  induction l generalizing L p m with
  | nil => rfl
  | cons x l ih => exact ih _ _ _
theorem replL_le {L : List Int} {i j : Int} {l : List Int} (h : L.length ≤ 1024) : (replL L i j l).length ≤ 1024 := by
  unfold replL; split
  · rename_i hE
    unfold replE at hE
    split at hE
    · simp at hE
    · split at hE
      · simp at hE
      · simp; omega
  · exact h
theorem appL_len {L : List Int} {a : Int} {dl il : List Int} (h : L.length ≤ 1024) : (appL L a dl il).length ≤ 1024 := by
  unfold appL; split
  · exact replL_le h
  · exact h
theorem bk_len {L : List Int} (h : L.length ≤ 1024) (xs : List EdA) : (bk L xs).length ≤ 1024 := by
  unfold bk
  generalize xs.reverse.map invA = l
  induction l generalizing L with
  | nil => exact h
  | cons x l ih => exact ih (appL_len h)
theorem repl_back {L : List Int} {i j : Int} {l : List Int} (h : L.length ≤ 1024) (hE : replE L i j l = 0) : appL (replL L i j l) (replA L i j l) (replI L i j l) (replD L i j l) = L := by
  have hb : 0 ≤ i ∧ i ≤ j ∧ j ≤ L.length := by
    unfold replE at hE
    split at hE
    · simp at hE
    · omega
  unfold replL replA replI replD
  rw [if_pos hE, if_pos hE, if_pos hE, if_pos hE]
  have hta : (L.take i.toNat).length = i.toNat := by simp; omega
  have hdl : ((L.drop i.toNat).take (j - i).toNat).length = (j - i).toNat := by simp; omega
  have e1 : (L.take i.toNat ++ l ++ L.drop j.toNat).drop i.toNat = l ++ L.drop j.toNat := by rw [List.append_assoc]; exact List.drop_left' hta
  have hf : fitsE (L.take i.toNat ++ l ++ L.drop j.toNat) i l = true := by
    unfold fitsE; rw [e1, List.take_left]; simp; omega
  have hr : replE (L.take i.toNat ++ l ++ L.drop j.toNat) i (i + l.length) ((L.drop i.toNat).take (j - i).toNat) = 0 := by
    unfold replE; rw [if_neg (by simp; omega), if_neg (by simp; omega)]
  have ha : appE (L.take i.toNat ++ l ++ L.drop j.toNat) i l ((L.drop i.toNat).take (j - i).toNat) = 0 := by
    unfold appE; rw [if_neg (by simp; omega), hf]; exact hr
  unfold appL
  rw [if_pos ha]
  unfold replL
  rw [if_pos hr, show (i + (l.length : Int)).toNat = i.toNat + l.length from by omega, ← List.drop_drop, e1, List.drop_left]
  rw [List.append_assoc, List.append_assoc, List.take_left' hta]
  rw [show L.drop j.toNat = (L.drop i.toNat).drop (j - i).toNat from by rw [List.drop_drop]; congr 1; omega, List.take_append_drop, List.take_append_drop]
/-- Taken back, all that is noted comes to A. -/
structure UI (L : List Int) (G : List (List EdA)) (N : List EdA) (A : List Int) (n : Nat) : Prop where
  len : L.length ≤ 1024
  ne : ∀ g ∈ G, g ≠ []
  bk : bk L (G.flatten ++ N) = A
  tot : uTot G N ≤ n
structure UIn (s : EdS) (A : List Int) (n : Nat) : Prop where
  inn : s.inn = true
  now : UI s.c.L s.here s.put A n
  was : UI s.was.L (s.was.un s.was.place) [] A n
structure UOut (s : EdS) (A : List Int) (n : Nat) : Prop where
  inn : s.inn = false
  put : s.put = []
  now : UI s.c.L s.here [] A n
section
variable {s t : EdS} {A L : List Int} {n m : Nat} {G : List (List EdA)} {N : List EdA}
theorem UI.more (h : UI L G N A n) (hm : n ≤ m) : UI L G N A m := ⟨h.len, h.ne, h.bk, Nat.le_trans h.tot hm⟩
theorem UIn.more (h : UIn s A n) (hm : n ≤ m) : UIn s A m := ⟨h.inn, h.now.more hm, h.was.more hm⟩
theorem UIn.same (h : UIn s A n) (h1 : t.inn = s.inn) (h2 : t.c.L = s.c.L) (h3 : t.here = s.here) (h4 : t.put = s.put) (h5 : t.was = s.was) : UIn t A n := ⟨h1.trans h.inn, by rw [h2, h3, h4]; exact h.now, by rw [h5]; exact h.was⟩
theorem UOut.begin (h : UOut s A n) : UIn s.beginS A n := by
  have e : s.beginS = { s with inn := true, was := s.c, cls := 0, killed := false, yanked := false, argues := false, whole := true, put := [] } := by unfold EdS.beginS; rw [if_neg (by rw [h.inn]; decide)]
  rw [e]
  exact ⟨rfl, h.now, h.now⟩
theorem uTotN_snoc (G : List (List EdA)) (N : List EdA) (x : EdA) : uTot G (N ++ [x]) = uTot G N + 1 := by unfold uTot; simp; omega
theorem UIn.repl (h : UIn s A n) (hn : n < 16384) (i j : Int) (l : List Int) : UIn (s.replS i j l) A (n + 1) := by
  obtain ⟨h1, h2, h3⟩ := h
  have hlen := h2.len
  unfold EdS.replS
  rw [if_pos h1]
  by_cases hE : replE s.c.L i j l = 0
  · have hb := repl_back hlen hE
    unfold EdS.noteS
    split
    · rename_i h0
      have hd : replD s.c.L i j l = [] ∧ replI s.c.L i j l = [] := ⟨List.length_eq_zero_iff.1 (by dsimp only at h0; omega), List.length_eq_zero_iff.1 (by dsimp only at h0; omega)⟩
      have hLs : replL s.c.L i j l = s.c.L := by
        have hb2 : 0 ≤ i ∧ i ≤ j ∧ j ≤ s.c.L.length := by
          unfold replE at hE
          split at hE
          · simp at hE
          · omega
        obtain ⟨d1, d2⟩ := hd
        unfold replD at d1; unfold replI at d2
        rw [if_pos hE] at d1 d2
        have d3 := congrArg List.length d1
        simp at d3
        have hij : i = j := by omega
        subst hij d2
        unfold replL; rw [if_pos hE]; simp
      exact ⟨h1, by show UI (replL s.c.L i j l) s.here s.put A (n + 1); rw [hLs]; exact h2.more (by omega), h3.more (by omega)⟩
    · rw [if_neg (by show ¬ 16384 ≤ uTot s.here s.put; have := h2.tot; omega)]
      refine ⟨h1, ⟨replL_le hlen, h2.ne, ?_, ?_⟩, h3.more (by omega)⟩
      · show bk (replL s.c.L i j l) (s.here.flatten ++ (s.put ++ [_])) = A
        rw [← List.append_assoc, bk_snoc]
        show bk (appL (replL s.c.L i j l) (replA s.c.L i j l) (replI s.c.L i j l) (replD s.c.L i j l)) _ = A
        rw [hb]; exact h2.bk
      · show uTot s.here (s.put ++ [_]) ≤ n + 1
        rw [uTotN_snoc]; have := h2.tot; omega
  · have hL : replL s.c.L i j l = s.c.L := by unfold replL; rw [if_neg hE]
    have hx : (replD s.c.L i j l).length + (replI s.c.L i j l).length = 0 := by unfold replD replI; rw [if_neg hE, if_neg hE]; rfl
    unfold EdS.noteS
    rw [if_pos hx]
    exact ⟨h1, by show UI (replL s.c.L i j l) s.here s.put A (n + 1); rw [hL]; exact h2.more (by omega), h3.more (by omega)⟩
theorem UIn.copy (h : UIn s A n) (i j : Int) (b : Bool) : UIn (s.copyS i j b) A n := by
  unfold EdS.copyS; split
  · exact h.same rfl rfl rfl rfl rfl
  · exact h
theorem flushG_flat (s : EdS) (on : Bool) : (s.flushG on).flatten = s.here.flatten ++ s.put := by
  unfold EdS.flushG
  split
  · rename_i h; rw [h, List.append_nil]
  · split
    · rcases List.eq_nil_or_concat s.here with hc | ⟨hs, g, hc⟩
      · rw [hc]; simp
      · rw [List.concat_eq_append] at hc; rw [hc]; simp
    · simp
theorem flushG_ne {s : EdS} (on : Bool) (h : ∀ g ∈ s.here, g ≠ []) : ∀ g ∈ s.flushG on, g ≠ [] := by
  unfold EdS.flushG
  split
  · exact h
  · rename_i hp
    split
    · rcases List.eq_nil_or_concat s.here with hc | ⟨hs, g, hc⟩
      · rw [hc]; simpa using hp
      · rw [List.concat_eq_append] at hc; rw [hc] at h ⊢
        simp only [List.getLast?_append, List.getLast?_singleton, Option.some_or, List.dropLast_concat]
        intro g' hg
        rcases List.mem_append.1 hg with hg | hg
        · exact h g' (List.mem_append.2 (.inl hg))
        · rw [List.mem_singleton.1 hg]; simp [hp]
    · intro g hg
      rcases List.mem_append.1 hg with hg | hg
      · exact h g hg
      · rw [List.mem_singleton.1 hg]; exact hp
theorem uTot_flat (G : List (List EdA)) (N : List EdA) : uTot G N = (G.flatten ++ N).length := by unfold uTot; rw [List.length_append, List.length_flatten]
theorem UI.flush {s : EdS} (h : UI L s.here s.put A n) (on : Bool) : UI L (s.flushG on) [] A n := by
  refine ⟨h.len, flushG_ne on h.ne, by rw [List.append_nil, flushG_flat]; exact h.bk, ?_⟩
  rw [uTot_flat, List.append_nil, flushG_flat, ← uTot_flat]; exact h.tot
theorem flushS_here (s : EdS) (on : Bool) : (s.flushS on).here = s.flushG on ∧ (s.flushS on).put = [] ∧ (s.flushS on).c.L = s.c.L ∧ (s.flushS on).was = s.was := by
  unfold EdS.flushS
  split
  · rename_i h
    refine ⟨?_, h, rfl, rfl⟩
    unfold EdS.flushG; rw [if_pos h]
  · exact ⟨updF_same _ _ _, rfl, rfl, rfl⟩
theorem UI.drop (h : UI L G [] A n) (hG : G ≠ []) : UI (Go.Proofs.YtgmpclifphbjkaaGreatDoor.bk L (G.getLastD [])) G.dropLast [] A n := by
  rcases List.eq_nil_or_concat G with hc | ⟨hs, g, hc⟩
  · exact absurd hc hG
  · rw [List.concat_eq_append] at hc; subst hc
    obtain ⟨h1, h2, h3, h4⟩ := h
    rw [show (hs ++ [g]).getLastD [] = g from by simp, List.dropLast_concat]
    refine ⟨bk_len h1 _, fun g' hg => h2 g' (List.mem_append.2 (.inl hg)), ?_, ?_⟩
    · rw [List.append_nil] at h3 ⊢
      rw [← h3, List.flatten_append, bk_append]; simp
    · unfold uTot at *; simp at *; omega
theorem UIn.undo (h : UIn s A n) : UIn s.undoS A n := by
  obtain ⟨h1, h2, h3⟩ := h
  obtain ⟨f1, f2, f3, f4⟩ := flushS_here s false
  have hf : UI (s.flushS false).c.L (s.flushS false).here (s.flushS false).put A n := by rw [f1, f2, f3]; exact h2.flush false
  unfold EdS.undoS
  rw [if_pos h1]
  dsimp only
  split
  · exact ⟨(flushS_inn s false).trans h1, hf, by rw [f4]; exact h3⟩
  · rename_i hG
    rw [f2] at hf
    refine ⟨(flushS_inn s false).trans h1, ?_, by show UI (s.flushS false).was.L _ [] A n; rw [show (((s.flushS false).setUn (s.flushS false).here.dropLast).appsS (((s.flushS false).here.getLastD []).reverse.map invA)).unWhole.was = s.was from f4, f4]; exact h3⟩
    have hd := hf.drop hG
    show UI (EdS.apps ((s.flushS false).c.L, (s.flushS false).c.pt, (s.flushS false).c.mark) (((s.flushS false).here.getLastD []).reverse.map invA)).1 (updF (s.flushS false).c.un (s.flushS false).c.place (s.flushS false).here.dropLast (s.flushS false).c.place) (s.flushS false).put A n
    rw [apps_fst, updF_same, f2]
    exact hd
theorem UIn.edit (h : UIn s A n) (hn : n < 16384) (p : PartM) : UIn (s.edit p) A (n + 1) := by
  have hm : UIn s A (n + 1) := h.more (by omega)
  unfold EdS.edit
  by_cases k0 : p.kd = 0
  · rw [if_pos k0]
    unfold EdS.typeS; rw [if_pos h.inn]; dsimp only
    by_cases hc : s.typeE p.text = 0 ∧ s.cls = 0
    · rw [if_pos hc]; exact (h.repl hn _ _ _).same rfl rfl rfl rfl rfl
    · rw [if_neg hc]; exact h.repl hn _ _ _
  rw [if_neg k0]
  by_cases k1 : p.kd = 1
  · rw [if_pos k1]
    exact h.repl hn _ _ _
  rw [if_neg k1]
  by_cases k2 : p.kd = 2
  · rw [if_pos k2]
    exact h.repl hn _ _ _
  rw [if_neg k2]
  by_cases k3 : p.kd = 3
  · rw [if_pos k3]
    exact h.repl hn _ _ _
  rw [if_neg k3]
  by_cases k4 : p.kd = 4
  · rw [if_pos k4]
    unfold EdS.killS
    by_cases hc : s.copyE p.a p.b p.back = 0
    · rw [if_pos hc]; exact (h.copy _ _ _).repl hn _ _ _
    · rw [if_neg hc]; exact hm
  rw [if_neg k4]
  by_cases k5 : p.kd = 5
  · rw [if_pos k5]
    exact hm.copy _ _ _
  rw [if_neg k5]
  by_cases k6 : p.kd = 6
  · rw [if_pos k6]
    unfold EdS.yankS
    by_cases hc : s.yankE = 0
    · rw [if_pos hc]; exact (h.repl hn s.c.pt s.c.pt s.top).same rfl rfl rfl rfl rfl
    · rw [if_neg hc]; exact hm
  rw [if_neg k6]
  by_cases k7 : p.kd = 7
  · rw [if_pos k7]
    unfold EdS.popS
    by_cases hc : s.popE p.a = 0
    · rw [if_pos hc]; exact (h.repl hn s.c.fr s.c.to (s.popL p.a)).same rfl rfl rfl rfl rfl
    · rw [if_neg hc]; exact hm
  rw [if_neg k7]
  by_cases k8 : p.kd = 8
  · rw [if_pos k8]
    unfold EdS.moveS; rw [if_pos h.inn]; exact hm.same rfl rfl rfl rfl rfl
  rw [if_neg k8]
  by_cases k9 : p.kd = 9
  · rw [if_pos k9]
    unfold EdS.markS; rw [if_pos h.inn]; exact hm.same rfl rfl rfl rfl rfl
  rw [if_neg k9]
  by_cases k10 : p.kd = 10
  · rw [if_pos k10]
    unfold EdS.swapS; rw [if_pos h.inn]; exact hm.same rfl rfl rfl rfl rfl
  rw [if_neg k10]
  by_cases k11 : p.kd = 11
  · rw [if_pos k11]
    exact hm.undo
  rw [if_neg k11]
  by_cases k17 : p.kd = 17
  · rw [if_pos k17]
    unfold EdS.modeS
    by_cases hc : s.modeE p.a = 0
    · rw [if_pos hc]; exact hm.same rfl rfl rfl rfl rfl
    · rw [if_neg hc]; exact hm
  rw [if_neg k17]
  exact hm
theorem end0_put (u : EdS) (h : u.inn = true) : (u.endS 0).put = [] := by
  by_cases ha : u.argues = true <;> by_cases hp : u.put = [] <;> by_cases hc : u.cls = 2 <;> simp [EdS.endS, EdS.endGood, EdS.endArg, EdS.flushS, EdS.noArg, EdS.setUn, EdS.flushG, EdS.here, updF_same, ha, hp, hc, h]
theorem UIn.end_ (h : UIn s A n) (err : Int) : UOut (s.endS err) A n := by
  by_cases he : err = 0
  · subst he
    refine ⟨end0_inn _ h.inn, end0_put _ h.inn, ?_⟩
    have e1 : (s.endS 0).here = s.flushG (s.typed && s.c.run) := end0_un s h.inn
    rw [end0_L _ h.inn, e1]
    exact h.now.flush _
  · unfold EdS.endS
    rw [if_pos h.inn, if_neg he]
    exact ⟨rfl, rfl, h.was⟩
/-- A command. -/
structure CmdM where
  parts : List PartM
  err : Int
def EdS.partU (s : EdS) (p : PartM) : EdS := if p.kd ≠ 13 ∧ p.kd < 20 then s.edit p else s
def EdS.cmdU (s : EdS) (c : CmdM) : EdS := (c.parts.foldl EdS.partU s.beginS).endS c.err
theorem UIn.parts (l : List PartM) : ∀ {s : EdS} {n : Nat}, UIn s A n → n + l.length ≤ 16384 → UIn (l.foldl EdS.partU s) A (n + l.length) := by
  induction l with
  | nil => intro s n h _; exact h
  | cons p l ih =>
    intro s n h hn
    rw [List.length_cons] at hn ⊢
    have h1 : UIn (s.partU p) A (n + 1) := by
      unfold EdS.partU; split
      · exact h.edit (by omega) p
      · exact h.more (by omega)
    have := ih h1 (by omega)
    rwa [show n + 1 + l.length = n + (l.length + 1) from by omega] at this
theorem UOut.cmd (h : UOut s A n) (c : CmdM) (hn : n + c.parts.length ≤ 16384) : UOut (s.cmdU c) A (n + c.parts.length) := (UIn.parts c.parts h.begin hn).end_ _
def sumP (cs : List CmdM) : Nat := (cs.map fun c => c.parts.length).sum
theorem UOut.cmds (cs : List CmdM) : ∀ {s : EdS} {n : Nat}, UOut s A n → n + sumP cs ≤ 16384 → UOut (cs.foldl EdS.cmdU s) A (n + sumP cs) := by
  induction cs with
  | nil => intro s n h _; exact h
  | cons c cs ih =>
    intro s n h hn
    have e : sumP (c :: cs) = c.parts.length + sumP cs := by simp [sumP]
    rw [e] at hn ⊢
    have := ih (h.cmd c (by omega)) (by omega)
    rwa [show n + c.parts.length + sumP cs = n + (c.parts.length + sumP cs) from by omega] at this
/-- One group taken back. -/
def undo1S (s : EdS) : EdS := s.beginS.undoS.endS 0
def undoK (s : EdS) : Nat → EdS
  | 0 => s
  | k + 1 => undo1S (undoK s k)
theorem UOut.here_undoes (h : UOut s A n) : s.undoes = s.here.length := by unfold EdS.undoes undoesOf; rw [h.inn]; simp
theorem ne_len {G : List (List EdA)} (h : ∀ g ∈ G, g ≠ []) : G.length ≤ uTot G [] := by
  induction G with
  | nil => simp
  | cons g G ih =>
    have h1 := ih fun g' hg => h g' (List.mem_cons_of_mem _ hg)
    have h2 := List.length_pos_iff.2 (h g List.mem_cons_self)
    unfold uTot at *; simp at *; omega
theorem UOut.glen (h : UOut s A n) : s.here.length ≤ n := Nat.le_trans (ne_len h.now.ne) h.now.tot
theorem UOut.beginH (h : UOut s A n) : s.beginS.here = s.here ∧ s.beginS.put = [] := by
  have e : s.beginS = { s with inn := true, was := s.c, cls := 0, killed := false, yanked := false, argues := false, whole := true, put := [] } := by unfold EdS.beginS; rw [if_neg (by rw [h.inn]; decide)]
  rw [e]; exact ⟨rfl, rfl⟩
theorem UOut.undo1 (h : UOut s A n) (hG : s.here ≠ []) : UOut (undo1S s) A n ∧ s.beginS.undoE = 0 ∧ (undo1S s).here = s.here.dropLast := by
  have hb := h.begin
  obtain ⟨e1, e2⟩ := h.beginH
  have hf : s.beginS.flushS false = s.beginS := by unfold EdS.flushS; rw [if_pos e2]
  refine ⟨hb.undo.end_ 0, by unfold EdS.undoE; rw [if_pos hb.inn, hf, e1, if_neg hG], ?_⟩
  have hi := hb.undo.inn
  have e3 : (undo1S s).here = s.beginS.undoS.flushG (s.beginS.undoS.typed && s.beginS.undoS.c.run) := end0_un _ hi
  have e4 : s.beginS.undoS = ((s.beginS.setUn s.here.dropLast).appsS ((s.here.getLastD []).reverse.map invA)).unWhole := by
    unfold EdS.undoS; rw [if_pos hb.inn]; dsimp only; rw [hf, e1, if_neg hG]
  rw [e3, e4]
  unfold EdS.flushG
  rw [if_pos (by exact e2)]
  exact updF_same _ _ _
theorem UOut.undoK (h : UOut s A n) : ∀ k, k ≤ s.here.length → UOut (undoK s k) A n ∧ (Go.Proofs.YtgmpclifphbjkaaGreatDoor.undoK s k).here.length = s.here.length - k
  | 0, _ => ⟨h, rfl⟩
  | k + 1, hk => by
    obtain ⟨a, b⟩ := UOut.undoK h k (by omega)
    obtain ⟨c1, c2, c3⟩ := a.undo1 (fun c => by rw [c] at b; simp at b; omega)
    refine ⟨c1, ?_⟩
    show (undo1S (Go.Proofs.YtgmpclifphbjkaaGreatDoor.undoK s k)).here.length = _
    rw [c3, List.length_dropLast, b]; omega
theorem UOut.empty (h : UOut s A n) (hG : s.here = []) : s.beginS.undoE = 6 ∧ s.beginS.undoS = s.beginS ∧ s.beginS.revS = s.beginS ∧ (s.beginS.endS 0).c.L = A := by
  have hb := h.begin
  obtain ⟨e1, e2⟩ := h.beginH
  have hf : s.beginS.flushS false = s.beginS := by unfold EdS.flushS; rw [if_pos e2]
  refine ⟨by unfold EdS.undoE; rw [if_pos hb.inn, hf, e1, if_pos hG], by unfold EdS.undoS; rw [if_pos hb.inn]; dsimp only; rw [hf, e1, if_pos hG], by unfold EdS.revS; rw [if_pos hb.inn]; dsimp only; rw [hf, e1, if_pos hG], ?_⟩
  have := h.now.bk
  rw [hG] at this
  rw [end0_L _ hb.inn, begin_c]
  exact this
theorem start_uout {hl : List HLn} {base most : Int} {l : List Int} (h : l.length ≤ 1024) : UOut ((EdS.new hl base most).startS hl base most l) l 0 := by
  have hE : (EdS.new hl base most).startE l = 0 := by unfold EdS.startE; rw [if_neg (by simp [EdS.new]), if_neg (by omega)]
  have e : (EdS.new hl base most).startS hl base most l = (EdS.new hl base most).start hl base most l := by unfold EdS.startS; rw [if_pos hE]
  rw [e]
  exact ⟨rfl, rfl, ⟨h, by intro g hg; exact absurd hg (by show ¬ g ∈ ([] : List (List EdA)); simp), rfl, by exact Nat.le_refl _⟩⟩
end
end Go.Proofs.YtgmpclifphbjkaaGreatDoor
end
section
/- Many slices of one's own. -/
set_option linter.unusedSimpArgs false
set_option linter.unusedVariables false
namespace Go.Proofs.YtgmpclifphbjkaaGreatDoor
open Go.RowKit
/-- Each of these slices is one's own. -/
def Owns (e : TypeId) (k : IntKind) : List Value → List (List Int) → HP
  | [], [] => emp
  | v :: vs, l :: ls => RowI e k v l • Owns e k vs ls
  | _, _ => fact False
section
variable {w0 w : World} {F : HP} {e : TypeId} {k : IntKind} {v : Value} {l : List Int}
theorem Holds.owns_nil (H : Holds w0 w F) : Holds w0 w (Owns e k [] [] • F) := H.add_emp
theorem owns_snoc : ∀ (vs : List Value) (ls : List (List Int)), (Owns e k vs ls • RowI e k v l) = Owns e k (vs ++ [v]) (ls ++ [l])
  | [], [] => by show (emp • RowI e k v l) = (RowI e k v l • emp); rw [sep_comm]
  | u :: vs, m :: ls => by
    show ((RowI e k u m • Owns e k vs ls) • RowI e k v l) = (RowI e k u m • Owns e k (vs ++ [v]) (ls ++ [l]))
    rw [sep_assoc, owns_snoc vs ls]
  | [], m :: ls => by
    apply HP.ext; funext I h; apply propext
    constructor
    · intro hp; exact absurd ((fact_sep _ _ _ _).1 hp).1 id
    · intro hp
      cases ls with
      | nil => exact absurd (show False by obtain ⟨_, _, _, _, _, hb⟩ := hp; exact hb.1) id
      | cons x y => exact absurd (show False by obtain ⟨_, _, _, _, _, hb⟩ := hp; exact hb.1) id
  | u :: vs, [] => by
    apply HP.ext; funext I h; apply propext
    constructor
    · intro hp; exact absurd ((fact_sep _ _ _ _).1 hp).1 id
    · intro hp
      cases vs with
      | nil => exact absurd (show False by obtain ⟨_, _, _, _, _, hb⟩ := hp; exact hb.1) id
      | cons x y => exact absurd (show False by obtain ⟨_, _, _, _, _, hb⟩ := hp; exact hb.1) id
theorem Holds.owns_snoc {vs : List Value} {ls : List (List Int)} (H : Holds w0 w (Owns e k vs ls • RowI e k v l • F)) : Holds w0 w (Owns e k (vs ++ [v]) (ls ++ [l]) • F) := H.deep.of_eq (by rw [Go.Proofs.YtgmpclifphbjkaaGreatDoor.owns_snoc])
end
end Go.Proofs.YtgmpclifphbjkaaGreatDoor
end
section
/- Editors: what is told of one: Kills, the lines that stand elsewhere, how many groups there are. -/
set_option linter.unusedSimpArgs false
set_option linter.unusedVariables false
namespace Go.Proofs.YtgmpclifphbjkaaGreatDoor
open Go.RowKit
section
variable {w0 w : World} {F : HP} {e p ph pw pt pr pm : Nat} {s : EdS} {k x place : Int} {hl : List HLn} {base most : Int} {tx : Int → Option ByteArray} {v : Value}
theorem hist_at_ret (H : Holds w0 w (HistRep p hl base most • F)) : Ret Tryz.prog 171 #[.pointer (some ⟨p, 0, none⟩), .int .i64 k] w fun v w' =>
    v = .tuple #[.agg #[.string (hlAt hl k).1, .int .i64 (hlAt hl k).2], .bool (decide (0 ≤ k ∧ k < hl.length))] ∧ Holds w0 w' (HistRep p hl base most • F) := by
  have hb : hl.length ≤ 4096 := by obtain ⟨v, h, _⟩ := H.hist; exact h.1
  refine ret_enter Tryz.func171 rfl Tryz.ntmps171 (Nat.le_of_ble_eq_true rfl) ?_
  dsimp only [slots0, Nat.reduceAdd]
  refine wc_seq ?_
  refine wc_region ?_
  refine wl_eff (e_allocL (l := [_, _]) H Tryz.zeroValue152 rfl) (ltn rfl) ?_
  rintro _ w1 ⟨b1, rfl, H1⟩
  refine wl_val (r_assign rfl) (ltn rfl) ?_
  refine wl_nil ?_
  refine wq_seq ?_
  refine wc_seq ?_
  refine wc_seq ?_
  refine wc_region ?_
  refine wl_val (r_move rfl) (ltn rfl) ?_
  refine wl_val (r_lss rfl rfl) (ltn rfl) ?_
  refine wl_split rfl (ltn rfl) (fun h1 => ?_) (fun h1 => ?_)
  · (try simp only [cmpS] at h1)
    refine wl_no rfl rfl rfl (ltn rfl) ?_
    refine wl_no rfl rfl rfl (ltn rfl) ?_
    refine wl_no rfl rfl rfl (ltn rfl) ?_
    refine wl_no rfl rfl rfl (ltn rfl) ?_
    refine wl_val (r_pick_t rfl rfl) (ltn rfl) ?_
    refine wl_nil ?_
    refine wq_seq ?_
    refine wc_cond_t rfl ?_
    refine wc_seq ?_
    refine wc_region ?_
    refine wl_val (r_buildL (zl := [.string .empty, .int .i64 0]) (pl := [(0, 1), (1, 1)]) [_, _] Tryz.underlying152 Tryz.zeroValue152 rfl (fun w => by kernel_rfl) rfl (.zero (zs := [.string .empty]) rfl (.zero (zs := [.int .i64 0]) rfl .nil)) rfl) (ltn rfl) ?_
    refine wl_eff0 (e_storePL 0 (l' := [_, _]) (us := [_, _]) H1 Tryz.sizeOf152 rfl rfl rfl (ones_cons (by first | rfl | assumption) (ones_cons (by first | rfl | assumption) ones_nil)) rfl rfl) ?_
    rintro _ w2 H2
    refine wl_val (r_assign rfl) (ltn rfl) ?_
    refine wl_nil ?_
    refine wq_seq ?_
    refine wc_ret ?_
    refine wq_then_ret ?_
    refine wq_end (.inl rfl) (resCT Tryz.results171 rfl rfl Tryz.underlying152 rfl (by rw [show (Tryz.prog.info? 152).map (·.size) = some 2 from by kernel_rfl]; rfl) (H2).get.2) ?_
    exact ⟨by unfold hlAt; rw [if_neg (by omega), decide_eq_false (by omega)], H2.right⟩
  · (try simp only [cmpS] at h1)
    refine wl_yes rfl rfl ?_
    refine wl_val (r_move rfl) (ltn rfl) ?_
    refine wl_yes rfl rfl ?_
    refine wl_val (r_move rfl) (ltn rfl) ?_
    refine wl_yes rfl rfl ?_
    refine wl_eff (e_call (r_call rfl Tryz.func75 rfl rfl) (hist_len_ret H1.f2)) (ltn rfl) ?_
    rintro _ w3 ⟨rfl, H3⟩
    refine wl_yes rfl rfl ?_
    refine wl_val (r_geq rfl rfl) (ltn rfl) ?_
    refine wl_val (r_pick_f rfl rfl) (ltn rfl) ?_
    refine wl_nil ?_
    refine wq_seq ?_
    refine wc_cond rfl (fun h2 => ?_) (fun h2 => ?_)
    · (try simp only [cmpS] at h2)
      
      refine wc_seq ?_
      refine wc_region ?_
      refine wl_val (r_buildL (zl := [.string .empty, .int .i64 0]) (pl := [(0, 1), (1, 1)]) [_, _] Tryz.underlying152 Tryz.zeroValue152 rfl (fun w => by kernel_rfl) rfl (.zero (zs := [.string .empty]) rfl (.zero (zs := [.int .i64 0]) rfl .nil)) rfl) (ltn rfl) ?_
      refine wl_eff0 (e_storePL 0 (l' := [_, _]) (us := [_, _]) H3.f2 Tryz.sizeOf152 rfl rfl rfl (ones_cons (by first | rfl | assumption) (ones_cons (by first | rfl | assumption) ones_nil)) rfl rfl) ?_
      rintro _ w4 H4
      refine wl_val (r_assign rfl) (ltn rfl) ?_
      refine wl_nil ?_
      refine wq_seq ?_
      refine wc_ret ?_
      refine wq_then_ret ?_
      refine wq_end (.inl rfl) (resCT Tryz.results171 rfl rfl Tryz.underlying152 rfl (by rw [show (Tryz.prog.info? 152).map (·.size) = some 2 from by kernel_rfl]; rfl) (H4).get.2) ?_
      exact ⟨by unfold hlAt; rw [if_neg (by omega), decide_eq_false (by omega)], H4.right⟩
    · (try simp only [cmpS] at h2)
      
      refine wc_skip ?_
      refine wq_seq ?_
      refine wc_seq ?_
      obtain ⟨m, rfl⟩ := Int.eq_ofNat_of_zero_le (show 0 ≤ k by omega)
      obtain ⟨hv_p, hk_p, HH_p⟩ := (H3).hist
      refine wc_region ?_
      refine wl_val (r_move rfl) (ltn rfl) ?_
      refine wl_val (r_nil rfl) (ltn rfl) ?_
      refine wl_val (r_fieldA 0 Tryz.underlying97 rfl rfl Tryz.sizeOf95 (by decide) rfl (by first | exact Nat.zero_add _ | rfl)) (ltn rfl) ?_
      refine wl_val (r_fieldA 0 Tryz.underlying95 rfl rfl Tryz.sizeOf51 (by decide) rfl (by first | exact Nat.zero_add _ | rfl)) (ltn rfl) ?_
      refine wl_val (r_load (plain_of Tryz.underlying51 rfl) rfl (cell_of_blk (HH_p).get.2 rfl)) (ltn rfl) ?_
      refine wl_val (r_move rfl) (ltn rfl) ?_
      obtain ⟨bhv_p, ohv_p, chv_p, ehv_p⟩ := Rd.posV ((HH_p.f2).row_rd) (by omega)
      cases ehv_p
      refine wl_val (r_index Tryz.underlying51 Tryz.sizeOf152 rfl rfl (by omega)) (ltn rfl) ?_
      refine wl_val (r_load_elem (ys := [_, _]) ((HH_p.f2).row_rd) (by omega) Tryz.underlying152 rfl Tryz.sizeOf152 rfl (flat_elem hlEnc_len (by omega) default) rfl) (ltn rfl) ?_
      refine wl_eff0 (e_storePL 0 (l' := [_, _]) (us := [_, _]) HH_p.f3 Tryz.sizeOf152 rfl rfl rfl (ones_cons (by first | rfl | assumption) (ones_cons (by first | rfl | assumption) ones_nil)) rfl rfl) ?_
      rintro _ w6 H6
      refine wl_val (r_assign rfl) (ltn rfl) ?_
      refine wl_nil ?_
      refine wq_seq ?_
      refine wc_ret ?_
      refine wq_end (.inl rfl) (resCT Tryz.results171 rfl rfl Tryz.underlying152 rfl (by rw [show (Tryz.prog.info? 152).map (·.size) = some 2 from by kernel_rfl]; rfl) (H6).get.2) ?_
      have Ho8 := H6.f3.f3
      have Hc9 := Holds.mk_hist hk_p Ho8
      exact ⟨by unfold hlAt; rw [if_pos (by omega), decide_eq_true (by omega)]; rfl, Hc9.f2.right⟩
theorem ed_first_ret {x0 x1 x2 x3 x4 x5 x6 x7 x8 x9 x10 x12 x13 x14 x15 x16 x17 x18 x19 x20 x21 x22 x23 x24 x25 x26 x27 x28 x29 x30 x31 x32 x33 : Value} (H : Holds w0 w (blk e (.cells (x0 :: x1 :: x2 :: x3 :: x4 :: x5 :: x6 :: x7 :: x8 :: x9 :: x10 :: .pointer (some ⟨ph, 0, none⟩) :: x12 :: x13 :: x14 :: x15 :: x16 :: x17 :: x18 :: x19 :: x20 :: x21 :: x22 :: x23 :: x24 :: x25 :: x26 :: x27 :: x28 :: x29 :: x30 :: x31 :: x32 :: x33 :: []).toArray 66 (0, 0)) • HistRep ph hl base most • F)) : Ret Tryz.prog 124 #[.pointer (some ⟨e, 0, none⟩), .int .i64 k] w fun v w' =>
    v = .string (firstOf hl k) ∧ Holds w0 w' (blk e (.cells (x0 :: x1 :: x2 :: x3 :: x4 :: x5 :: x6 :: x7 :: x8 :: x9 :: x10 :: .pointer (some ⟨ph, 0, none⟩) :: x12 :: x13 :: x14 :: x15 :: x16 :: x17 :: x18 :: x19 :: x20 :: x21 :: x22 :: x23 :: x24 :: x25 :: x26 :: x27 :: x28 :: x29 :: x30 :: x31 :: x32 :: x33 :: []).toArray 66 (0, 0)) • HistRep ph hl base most • F) := by
  refine ret_enter Tryz.func124 rfl Tryz.ntmps124 (Nat.le_of_ble_eq_true rfl) ?_
  dsimp only [slots0, Nat.reduceAdd]
  refine wc_seq ?_
  refine wc_region ?_
  refine wl_val (r_assign rfl) (ltn rfl) ?_
  refine wl_nil ?_
  refine wq_seq ?_
  refine wc_seq ?_
  refine wc_region ?_
  refine wl_val (r_move rfl) (ltn rfl) ?_
  refine wl_val (r_nil rfl) (ltn rfl) ?_
  refine wl_val (r_fieldA 11 Tryz.underlying66 rfl rfl Tryz.sizeOf24 (by decide) rfl (by first | exact Nat.zero_add _ | rfl)) (ltn rfl) ?_
  refine wl_val (r_load (plain_of Tryz.underlying24 rfl) rfl (cell_of_blk (H).get.2 rfl)) (ltn rfl) ?_
  refine wl_val (r_move rfl) (ltn rfl) ?_
  refine wl_eff (e_call (r_call rfl Tryz.func171 rfl rfl) (hist_at_ret H.f2)) (ltn rfl) ?_
  rintro _ w1 ⟨rfl, H1⟩
  refine wl_val (r_move rfl) (ltn rfl) ?_
  refine wl_val (r_extract rfl rfl) (ltn rfl) ?_
  refine wl_val (r_extract rfl rfl) (ltn rfl) ?_
  refine wl_eff (e_allocL (l := [_, _]) H1 Tryz.zeroValue152 rfl) (ltn rfl) ?_
  rintro _ w2 ⟨b2, rfl, H2⟩
  refine wl_eff0 (e_storePL 0 (l' := [_, _]) (us := [_, _]) H2 Tryz.sizeOf152 rfl rfl rfl (ones_cons (by first | rfl | assumption) (ones_cons (by first | rfl | assumption) ones_nil)) rfl rfl) ?_
  rintro _ w3 H3
  refine wl_val (r_assign rfl) (ltn rfl) ?_
  refine wl_nil ?_
  refine wq_seq ?_
  refine wc_seq ?_
  refine wc_region ?_
  refine wl_val (r_fieldA 0 Tryz.underlying152 rfl rfl Tryz.sizeOf9 (by decide) rfl (by first | exact Nat.zero_add _ | rfl)) (ltn rfl) ?_
  refine wl_val (r_load (plain_of Tryz.underlying9 rfl) rfl (cell_of_blk (H3).get.2 rfl)) (ltn rfl) ?_
  refine wl_val (r_assign rfl) (ltn rfl) ?_
  refine wl_nil ?_
  refine wq_seq ?_
  refine wc_ret ?_
  refine wq_end1 (.inl rfl) Tryz.results124 rfl ?_
  exact ⟨rfl, H3.right.f2⟩
theorem strF_some {t : ByteArray} (h : tx k = some t) : (strF tx k).getD (.string .empty) = .string t ∧ (strF tx k).isSome = true := by unfold strF; rw [h]; exact ⟨rfl, rfl⟩
theorem strF_isSome : (strF tx k).isSome = (tx k).isSome := by unfold strF; cases tx k <;> rfl
theorem ed_stands_ret {x0 x1 x3 x4 x5 x6 x7 x8 x9 x10 x12 x13 x14 x15 x16 x17 x18 x19 x20 x21 x22 x23 x24 x25 x26 x27 x28 x29 x30 x31 x32 x33 : Value} (H : Holds w0 w (blk e (.cells (x0 :: x1 :: .pointer (some ⟨pw, 0, none⟩) :: x3 :: x4 :: x5 :: x6 :: x7 :: x8 :: x9 :: x10 :: .pointer (some ⟨ph, 0, none⟩) :: x12 :: x13 :: x14 :: x15 :: x16 :: x17 :: x18 :: x19 :: x20 :: x21 :: x22 :: x23 :: x24 :: x25 :: x26 :: x27 :: x28 :: x29 :: x30 :: x31 :: x32 :: x33 :: []).toArray 66 (0, 0)) • blk pw (.cells #[v, .map (some pt)] 112 (0, 0)) • MapRep kI64 pt (strF tx) • HistRep ph hl base most • F)) :
    Ret Tryz.prog 78 #[.pointer (some ⟨e, 0, none⟩), .int .i64 k] w fun v' w' =>
    v' = .string (standsOf hl tx k) ∧ Holds w0 w' (blk e (.cells (x0 :: x1 :: .pointer (some ⟨pw, 0, none⟩) :: x3 :: x4 :: x5 :: x6 :: x7 :: x8 :: x9 :: x10 :: .pointer (some ⟨ph, 0, none⟩) :: x12 :: x13 :: x14 :: x15 :: x16 :: x17 :: x18 :: x19 :: x20 :: x21 :: x22 :: x23 :: x24 :: x25 :: x26 :: x27 :: x28 :: x29 :: x30 :: x31 :: x32 :: x33 :: []).toArray 66 (0, 0)) • blk pw (.cells #[v, .map (some pt)] 112 (0, 0)) • MapRep kI64 pt (strF tx) • HistRep ph hl base most • F) := by
  refine ret_enter Tryz.func78 rfl Tryz.ntmps78 (Nat.le_of_ble_eq_true rfl) ?_
  dsimp only [slots0, Nat.reduceAdd]
  refine wc_seq ?_
  refine wc_region ?_
  refine wl_val (r_assign rfl) (ltn rfl) ?_
  refine wl_nil ?_
  refine wq_seq ?_
  refine wc_seq ?_
  refine wc_seq ?_
  refine wc_region ?_
  refine wl_val (r_move rfl) (ltn rfl) ?_
  refine wl_val (r_nil rfl) (ltn rfl) ?_
  refine wl_val (r_fieldA 0 Tryz.underlying66 rfl rfl Tryz.sizeOf62 (by decide) rfl (by first | exact Nat.zero_add _ | rfl)) (ltn rfl) ?_
  refine wl_val (r_fieldA 2 Tryz.underlying62 rfl rfl Tryz.sizeOf59 (by decide) rfl (by first | exact Nat.zero_add _ | rfl)) (ltn rfl) ?_
  refine wl_val (r_load (plain_of Tryz.underlying59 rfl) rfl (cell_of_blk (H).get.2 rfl)) (ltn rfl) ?_
  refine wl_val (r_nil rfl) (ltn rfl) ?_
  refine wl_val (r_fieldA 1 Tryz.underlying112 rfl rfl Tryz.sizeOf110 (by decide) rfl (by first | exact Nat.zero_add _ | rfl)) (ltn rfl) ?_
  refine wl_val (r_load (plain_of Tryz.underlying110 rfl) rfl (cell_of_blk (H.f2).get.2 rfl)) (ltn rfl) ?_
  refine wl_val (r_move rfl) (ltn rfl) ?_
  refine wl_val (r_lookup_ok (H.f3) Tryz.underlying110 Tryz.underlying3 Tryz.zeroValue9 rfl rfl) (ltn rfl) ?_
  refine wl_val (r_move rfl) (ltn rfl) ?_
  refine wl_val (r_extract rfl rfl) (ltn rfl) ?_
  refine wl_val (r_extract rfl rfl) (ltn rfl) ?_
  refine wl_val (r_assign rfl) (ltn rfl) ?_
  refine wl_val (r_assign rfl) (ltn rfl) ?_
  refine wl_nil ?_
  refine wq_seq ?_
  refine wc_seq ?_
  refine wc_region ?_
  refine wl_val (r_move rfl) (ltn rfl) ?_
  refine wl_nil ?_
  refine wq_seq ?_
  refine wc_cond rfl (fun h1 => ?_) (fun h1 => ?_)
  · (try simp only [cmpS] at h1)
    obtain ⟨tt, htt⟩ := Option.isSome_iff_exists.1 (strF_isSome (tx := tx) ▸ h1)
    refine wc_seq ?_
    refine wc_region ?_
    refine wl_val (r_move rfl) (ltn rfl) ?_
    refine wl_val (r_assign rfl) (ltn rfl) ?_
    refine wl_nil ?_
    refine wq_seq ?_
    refine wc_ret ?_
    refine wq_then_ret ?_
    refine wq_end1 (.inl rfl) Tryz.results78 rfl ?_
    exact ⟨by unfold standsOf; rw [htt]; show (strF tx k).getD (.string .empty) = _; rw [(strF_some htt).1]; rfl, H.f4.f4.f4.f4⟩
  · (try simp only [cmpS] at h1)
    have htt : tx k = none := by have := strF_isSome (tx := tx) (k := k) ▸ h1; simpa using this
    refine wc_skip ?_
    refine wq_seq ?_
    refine wc_seq ?_
    refine wc_region ?_
    refine wl_val (r_move rfl) (ltn rfl) ?_
    refine wl_val (r_move rfl) (ltn rfl) ?_
    refine wl_eff (e_call (r_call rfl Tryz.func124 rfl rfl) (ed_first_ret H.f4.f2)) (ltn rfl) ?_
    rintro _ w1 ⟨rfl, H1⟩
    refine wl_val (r_assign rfl) (ltn rfl) ?_
    refine wl_nil ?_
    refine wq_seq ?_
    refine wc_ret ?_
    refine wq_end1 (.inl rfl) Tryz.results78 rfl ?_
    exact ⟨by unfold standsOf; rw [htt]; rfl, H1.f2.f4.f4.f4⟩
end
end Go.Proofs.YtgmpclifphbjkaaGreatDoor
end
