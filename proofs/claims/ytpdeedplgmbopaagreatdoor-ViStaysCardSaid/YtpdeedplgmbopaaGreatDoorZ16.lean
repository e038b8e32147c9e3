import Derived.Test.YtpdeedplgmbopaaGreatDoorZ4
import Derived.Test.YtpdeedplgmbopaaGreatDoorZ15
import Derived.Test.YtpdeedplgmbopaaGreatDoorZ11
import Derived.Test.YtpdeedplgmbopaaGreatDoorZ13
import Derived.Test.YtpdeedplgmbopaaGreatDoorZ10
import Derived.Test.YtpdeedplgmbopaaGreatDoorZ5
import Derived.Test.YtpdeedplgmbopaaGreatDoorZ2
set_option linter.unusedSimpArgs false
set_option linter.unusedVariables false
/- Texts of mine, joined, their names in short: ETyM2 EdSt EKillM EUndoM UBackM EdR32 MapI VW VW2 VW3. -/
section
namespace Go.Proofs.YtpdeedplgmbopaaGreatDoor
open Go.RowKit
def X5 (p : Int) : List Int → List jL
  | [] => []
  | r :: l => (p, [], [r]) :: X5 (p + 1) l
theorem adr (p : Int) (l : List Int) (r : Int) : X5 p (l ++ [r]) = X5 p l ++ [(p + l.length, [], [r])] := by
  induction l generalizing p with
  | nil => simp [X5]
  | cons x l ih => simp only [List.cons_append, X5, ih, List.length_cons]; rw [show p + 1 + (l.length : Int) = p + ((l.length + 1 : Nat) : Int) from by omega]
theorem afM (p : Int) (l : List Int) : (X5 p l).length = l.length := by induction l generalizing p with
  | nil => rfl
  | cons x l ih => simp [X5, ih]
def Ii (G : List (List jL)) (p : Int) (l : List Int) : List (List jL) := if l = [] then G else G ++ [X5 p l]
theorem aby (G : List (List jL)) (p : Int) (l : List Int) : iK (Ii G p l) [] = iK G [] + l.length := by
  unfold Ii iK; split
  · rename_i h; subst h; simp
  · simp [afM]
theorem Y4 (G : List (List jL)) (p : Int) (l : List Int) (r : Int) : Xa (Ii G p l) (!l.isEmpty) (p + l.length, [], [r]) = Ii G p (l ++ [r]) := by
  unfold Xa Ii
  rw [if_neg (show l ++ [r] ≠ [] by simp)]
  cases l with
  | nil => simp [X5]
  | cons x l => rw [if_neg (show ¬ x :: l = [] by simp)]; simp only [List.isEmpty_cons, Bool.not_false, if_true, List.getLast?_append, List.getLast?_singleton, Option.some_or, List.dropLast_concat, adr]
theorem yQ (s : bQ) : s.cZ.inn = true := by unfold bQ.cZ; split; assumption; rfl
theorem PY (s : bQ) (b : Bool) : (s.eX b).inn = s.inn := by unfold bQ.eX; split <;> rfl
section
variable {s : bQ} {L : List Int} {pt : Int} {G : List (List jL)} {run : Bool} {r : Int}
def PZ (s : bQ) (l : List Int) : bQ := l.foldl TA s
theorem Out.PZ (h : Out s L pt G false) (h1 : 0 ≤ pt ∧ pt ≤ L.length) (l : List Int) (h2 : L.length + l.length ≤ 1024) (h3 : iK G [] + l.length ≤ 16384) :
    Out (PZ s l) (L.take pt.toNat ++ l ++ L.drop pt.toNat) (pt + l.length) (Ii G pt l) (!l.isEmpty) := by
  suffices hh : ∀ n (l : List Int), l.length = n → L.length + n ≤ 1024 → iK G [] + n ≤ 16384 → Out (Go.Proofs.YtpdeedplgmbopaaGreatDoor.PZ s l) (L.take pt.toNat ++ l ++ L.drop pt.toNat) (pt + l.length) (Ii G pt l) (!l.isEmpty) from hh _ l rfl h2 h3
  intro n
  induction n with
  | zero =>
    intro l hn _ _
    obtain rfl := List.length_eq_zero_iff.1 hn
    simpa [Ii, Go.Proofs.YtpdeedplgmbopaaGreatDoor.PZ] using h
  | succ n ih =>
    intro l hn h2 h3
    rcases List.eq_nil_or_concat l with rfl | ⟨l, r, rfl⟩
    · cases hn
    rw [List.concat_eq_append] at hn ⊢
    have hn2 : l.length = n := by simpa using hn
    have h4 := ih l hn2 (by omega) (by omega)
    have hl : (L.take pt.toNat ++ l ++ L.drop pt.toNat).length = L.length + l.length := by simp; omega
    have h5 := h4.TA (r := r) (by rw [hl]; omega) (by rw [hl]; omega) (by rw [aby]; omega)
    have e1 : (L.take pt.toNat ++ l ++ L.drop pt.toNat).take (pt + l.length).toNat = L.take pt.toNat ++ l := by
      rw [List.take_append_of_le_length (by simp; omega), List.take_of_length_le (by simp; omega)]
    have e2 : (L.take pt.toNat ++ l ++ L.drop pt.toNat).drop (pt + l.length).toNat = L.drop pt.toNat := by
      rw [List.drop_append_of_le_length (by simp; omega), List.drop_of_length_le (by simp; omega), List.nil_append]
    rw [e1, e2, Y4] at h5
    have e3 : Go.Proofs.YtpdeedplgmbopaaGreatDoor.PZ s (l ++ [r]) = Go.Proofs.YtpdeedplgmbopaaGreatDoor.TA (Go.Proofs.YtpdeedplgmbopaaGreatDoor.PZ s l) r := by unfold Go.Proofs.YtpdeedplgmbopaaGreatDoor.PZ; rw [List.foldl_append]; rfl
    rw [e3]
    rw [show pt + ((l ++ [r]).length : Int) = pt + l.length + 1 from by simp; omega, show (!(l ++ [r]).isEmpty) = true from by simp, ← List.append_assoc]
    exact h5
theorem ads (A B : List Int) (p m : Int) (r : Int) (h : A.length + B.length ≤ 1024) : ∃ p' m', bQ.ahE (A ++ r :: B, p, m) ((A.length : Int), [r], []) = (A ++ B, p', m') := by
  refine ⟨_, _, Prod.ext ?_ rfl⟩
  show G9 (A ++ r :: B) (A.length : Int) [r] [] = A ++ B
  have hr : nP (A ++ r :: B) (A.length : Int) (A.length + ([r].length : Int)) [] = 0 := by
    unfold nP; rw [if_neg (by simp; omega), if_neg (by simp; omega)]
  have hf : G6 (A ++ r :: B) (A.length : Int) [r] = true := by
    unfold G6; simp; omega
  have he : Gy (A ++ r :: B) (A.length : Int) [r] [] = 0 := by unfold Gy; rw [if_neg (by simp; omega), hf]; exact hr
  unfold G9 nY
  rw [if_pos he, if_pos hr]
  rw [show (A.length + ([r].length : Int)).toNat = A.length + 1 from by simp, show (A.length : Int).toNat = A.length from by omega]
  rw [List.take_left, show A.length + 1 = (A ++ [r]).length from by simp, show A ++ r :: B = (A ++ [r]) ++ B from by simp, List.drop_left]
  simp
theorem adt (l : List Int) (A B : List Int) (p m : Int) (h : A.length + l.length + B.length ≤ 1024) : ∃ p' m', bQ.apps (A ++ l ++ B, p, m) ((X5 (A.length : Int) l).reverse.map Bz) = (A ++ B, p', m') := by
  induction l generalizing A p m with
  | nil => exact ⟨p, m, by simp [X5, bQ.apps]⟩
  | cons r l ih =>
    rw [List.length_cons] at h
    obtain ⟨p1, m1, e1⟩ := ih (A ++ [r]) p m (by simp; omega)
    rw [List.length_append, List.length_singleton] at e1
    have e2 : A ++ r :: l ++ B = A ++ [r] ++ l ++ B := by simp
    show ∃ p' m', bQ.apps (A ++ r :: l ++ B, p, m) (((((A.length : Int), [], [r]) :: X5 ((A.length : Int) + 1) l).reverse).map Bz) = _
    rw [List.reverse_cons, List.map_append, e2]
    unfold bQ.apps at e1 ⊢
    rw [List.foldl_append]
    rw [show ((A.length + 1 : Nat) : Int) = (A.length : Int) + 1 from by omega] at e1
    rw [e1, List.append_assoc, List.singleton_append]
    exact ads A B p1 m1 r (by omega)
theorem Out.afN {A B l : List Int} (h : Out s (A ++ l ++ B) pt (Ii G A.length l) run) (hl : l ≠ []) (hn : A.length + l.length + B.length ≤ 1024) :
    s.cZ.vI = 0 ∧ ∃ pt', Out (s.cZ.vK.lQ 0) (A ++ B) pt' G false := by
  have hb := h.begin.1
  have hw : Ii G A.length l = G ++ [X5 A.length l] := by unfold Ii; rw [if_neg hl]
  have hf : s.cZ.eX false = s.cZ := by unfold bQ.eX; rw [if_pos hb.put]
  have hh : s.cZ.here = G ++ [X5 A.length l] := hb.G.trans hw
  obtain ⟨p', m', e⟩ := adt l A B pt s.cZ.c.mark hn
  refine ⟨by unfold bQ.vI; rw [if_pos hb.inn, hf, hh, if_neg (by simp)], p', ?_⟩
  have eU : s.cZ.vK = ((s.cZ.lV G).pR (A ++ B) p' m').Ce := by
    unfold bQ.vK
    rw [if_pos hb.inn]
    dsimp only
    rw [hf, if_neg (by rw [hh]; simp), hh, List.dropLast_concat]
    rw [show (G ++ [X5 (A.length : Int) l]).getLastD [] = X5 A.length l from by simp]
    unfold bQ.KF
    rw [show ((s.cZ.lV G).c.L, (s.cZ.lV G).c.pt, (s.cZ.lV G).c.mark) = (A ++ l ++ B, pt, s.cZ.c.mark) from by rw [← hb.L, ← hb.pt]; rfl, e]
  rw [eU]
  exact TB hb.inn rfl rfl (jo _ _ _) hb.over hb.put hb.cls
end
end Go.Proofs.YtpdeedplgmbopaaGreatDoor
end
section
namespace Go.Proofs.YtpdeedplgmbopaaGreatDoor
open Go.RowKit
open _root_.Go.Proofs.Tryz
def bQ.yR (s : bQ) (l : List Int) : Int := if s.inn then 1 else if 1024 < l.length then 3 else 0
def bQ.JV (s : bQ) (hl : List wY) (base most : Int) (l : List Int) : bQ := if s.yR l = 0 then s.start hl base most l else s
theorem Xc {s : bQ} (h : qE s) (hi : s.inn = false) (hl : List wY) (base most : Int) (l : List Int) : qE (s.start hl base most l) := by
  obtain ⟨h1, h2, h3, h4, h5, h6⟩ := h
  refine ⟨WH _ _ _ _ _, fun h => absurd (show s.inn = true from h) (by rw [hi]; decide), ⟨by show (-1 : Int) ≤ -1; decide, by show (-1 : Int) ≤ 1000000; decide⟩, h4, ?_, by simp [bQ.start, rC.fresh]⟩
  show iK [] s.put ≤ 16384
  unfold iK at *; simp at *; omega
section
variable {w0 w : World} {F : HP} {e p h pr : Nat} {s : bQ} {hl : List wY} {base most m : Int} {v : Value} {l : List Int}
theorem U1 (H : V w0 w (dZ e s • jZ h hl base most • F)) (hr : jO w0 F .i32 v l) : jf prog 59 #[.pointer (some ⟨e, 0, none⟩), .pointer (some ⟨h, 0, none⟩), v] w fun v' w' =>
  v' = .int .i64 (s.yR l) ∧ V w0 w' (dZ e (s.JV hl base most l) • jZ h hl base most • F) := by
 unfold bQ.JV
 refine EU func59 ntmps59 ?_
 refine kH O (aI (bf (bI O (dX O func65 (xk H) ?_))))
 rintro _ _ ⟨rfl, rfl⟩
 refine bW O (bF (bW O (bF (dX O func109 (zC H.f2) ?_))))
 rintro _ w2 ⟨q2, rfl, H2⟩
 refine bF (aV (kU nK O O) (iH O O (fO O (JF O (fun h1 => ?_)))))
 (try simp only [Z] at h1)
 refine aI ?_
 have X6 := H2.right
 obtain ⟨xE, yB, yC, y9, yD, yE, yF, yG, xG, vM, vN, vO, vP, vS, vT, vU, vV, vW, vX, vY, iT, dQ, lT, jm⟩ := (X6.f2).Jp
 refine aF (mX O O (bM 16 ay O aT O (eH bJ O (jm).get.2 O (fO O (bg O (fun h2 => ?_) (fun h2 => ?_))))))
 ·(try simp only [Z] at h2)
  have hin := h2
  have hE : s.yR l = 1 := by unfold bQ.yR; rw [if_pos hin]
  refine jS O (aN (aC (dL results59 O ?_)))
  have UA := jm.f11.f11.f11.f11.f11.f11.f11.f11.f11.f11.f11
  have QU := V.ji (s := s) iT dQ UA
  exact ⟨by rw [hE], by rw [if_neg (by rw [hE]; decide)]; exact QU.f2.f2⟩
 ·(try simp only [Z] at h2)
  have hin : s.inn = false := by simpa using h2
  refine bI O (aV (gZ (hr _ (jm.right.right.right.right.right.right.right.right.right.right.right.right)) ah O) (aV (gK O O) (fO O (bg O (fun h3 => ?_) (fun h3 => ?_)))))
  ·(try simp only [Z] at h3)
   have hbig := h3
   have hE : s.yR l = 3 := by unfold bQ.yR; rw [if_neg (by simp [hin]), if_pos (by omega)]
   refine jS O (aN (aC (dL results59 O ?_)))
   have Ho9 := jm.f11.f11.f11.f11.f11.f11.f11.f11.f11.f11.f11
   have ah4 := V.ji (s := s) iT dQ Ho9
   exact ⟨by rw [hE], by rw [if_neg (by rw [hE]; decide)]; exact ah4.f2.f2⟩
  ·(try simp only [Z] at h3)
   have hE : s.yR l = 0 := by unfold bQ.yR; rw [if_neg (by simp [hin]), if_neg (by have h9 := h3; omega)]
   have hsh : l.length ≤ 1024 := by have h9 := h3; omega
   refine bU (aH (aU (bI O (jU O O (dX O func111 (Jq (E := s.c.E) (a := s.c.at_) jm.f2.right.f3.right.f3.right.f3.right.f3.right.f6.f6.f6.f6.f6.f7.f7 (fun W HW => hr W HW.right.right.right.right.right) hsh) ?_)))))
   rintro _ FK ⟨qb, qw, qt, qm, qh, ru⟩
   refine iR (jS O (dL results59 O ?_))
   exact ⟨by rw [hE], by rw [if_pos hE]; exact V.ji (s := s.start hl base most l) (Xc iT hin _ _ _ _) dQ ru.f7.f12.f12.f12.f12.f11.f11.f11.f11.f12.f12.f12⟩
end
end Go.Proofs.YtpdeedplgmbopaaGreatDoor
end
section
namespace Go.Proofs.YtpdeedplgmbopaaGreatDoor
open Go.RowKit
section
variable {s : bQ}
theorem afO (s : bQ) (x : jL) : (s.vJ x).c.L = s.c.L ∧ (s.vJ x).c.pt = s.c.pt ∧ (s.vJ x).c.mark = s.c.mark ∧ (s.vJ x).c.E = s.c.E ∧ (s.vJ x).c.at_ = s.c.at_ ∧ (s.vJ x).inn = s.inn ∧ (s.vJ x).cls = s.cls ∧ (s.vJ x).was = s.was := by
  unfold bQ.vJ
  split
  · simp
  · split <;> simp [bQ.lV]
theorem aau (h : s.inn = true) (i j : Int) (l : List Int) : (s.nR i j l).c.L = nY s.c.L i j l ∧ (s.nR i j l).c.pt = wH s.c.L s.c.pt i j l ∧ (s.nR i j l).c.mark = yc s.c.L s.c.mark i j l ∧ (s.nR i j l).c.E = s.c.E ∧ (s.nR i j l).c.at_ = s.c.at_ ∧ (s.nR i j l).inn = true ∧ (s.nR i j l).cls = s.cls ∧ (s.nR i j l).was = s.was := by
  unfold bQ.nR
  rw [if_pos h]
  obtain ⟨h1, h2, h3, h4, h5, h6, h7, h8⟩ := afO (s.pR (nY s.c.L i j l) (wH s.c.L s.c.pt i j l) (yc s.c.L s.c.mark i j l)) (xK s.c.L i j l, qB s.c.L i j l, qC s.c.L i j l)
  exact ⟨h1, h2, h3, h4, h5, h6.trans h, h7, h8⟩
theorem ah5 (h : s.inn = true) {i j : Int} {back : Bool} (hi : 0 ≤ i ∧ i ≤ j ∧ j ≤ s.c.L.length) (hL : s.c.L.length ≤ 1024) (hk : (s.yj i j back).1 = 0) (hp : i ≤ s.c.pt ∧ s.c.pt ≤ j) :
    (s.zG i j back).c.L = s.c.L.take i.toNat ++ s.c.L.drop j.toNat ∧ (s.zG i j back).c.pt = i ∧ (s.zG i j back).c.E = (s.yj i j back).2.1 ∧ (s.zG i j back).c.at_ = (s.yj i j back).2.2 ∧ (s.zG i j back).inn = true ∧ (s.zG i j back).cls = 1 := by
  have hc : s.xO i j back = 0 := by
    unfold bQ.xO
    rw [if_pos h, if_neg (by unfold bQ.wJ; omega), hk]
  have hE : nP s.c.L i j [] = 0 := by unfold nP; rw [if_neg (by omega), if_neg (by simp; omega)]
  unfold bQ.zG
  rw [if_pos hc]
  have e : s.yu i j back = { s.Oc (s.yj i j back).2.1 (s.yj i j back).2.2 with killed := true, cls := 1 } := by unfold bQ.yu; rw [if_pos hc]
  have ei : (s.yu i j back).inn = true := by rw [e]; exact h
  obtain ⟨h1, h2, h3, h4, h5, h6, h7, h8⟩ := aau ei i j []
  refine ⟨h1.trans ?_, h2.trans ?_, h4.trans (by rw [e]; rfl), h5.trans (by rw [e]; rfl), h6, h7.trans (by rw [e])⟩
  · rw [show (s.yu i j back).c.L = s.c.L from by rw [e]; rfl]
    unfold nY
    rw [if_pos hE]; simp
  · rw [show (s.yu i j back).c.L = s.c.L from by rw [e]; rfl, show (s.yu i j back).c.pt = s.c.pt from by rw [e]; rfl]
    unfold wH iP
    rw [if_pos hE]
    simp only [List.length_nil]
    split <;> (try split) <;> omega
end
structure P5 (s : bQ) (A : List Int) (a b : Int) : Prop where
  inn : s.inn = false
  ok : 0 ≤ a ∧ a ≤ b ∧ b ≤ A.length
  L : s.c.L = A.take a.toNat ++ A.drop b.toNat
  pt : s.c.pt = a
  ring : (s.c.E = [] ∧ a = b) ∨ (s.c.E = [(A.drop a.toNat).take (b.toNat - a.toNat)] ∧ s.c.at_ = 0 ∧ s.c.last = 1)
section
variable {s : bQ} {A : List Int} {a b k : Int}
theorem P5.len (h : P5 s A a b) : (s.c.L.length : Int) = A.length - (b - a) := by
  have := h.ok
  rw [h.L]; simp; omega
theorem sK (s : bQ) : s.cZ.c = s.c := by unfold bQ.cZ; split <;> rfl
theorem Y5 (h : P5 s A a b) (hA : A.length ≤ 1024) {i j : Int} {back : Bool} {l : List Int} (hcut : s.cZ.cut i j = l) (hl : l.length + (b - a) ≤ A.length) :
    (s.cZ.yj i j back).1 = 0 ∧ ((s.cZ.yj i j back).2.1 = [] ∧ l = [] ∧ a = b ∨ (s.cZ.yj i j back).2.1 = [if back then l ++ (A.drop a.toNat).take (b.toNat - a.toNat) else (A.drop a.toNat).take (b.toNat - a.toNat) ++ l] ∧ (s.cZ.yj i j back).2.2 = 0) := by
  have ho := h.ok
  have hb : s.cZ.killed = false := by unfold bQ.cZ; rw [if_neg (by rw [h.inn]; decide)]
  unfold bQ.yj
  rw [hcut, sK]
  rcases h.ring with ⟨h1, h2⟩ | ⟨h1, h2, h3⟩
  · rw [h1]
    have hx : (A.drop a.toNat).take (b.toNat - a.toNat) = [] := by rw [h2]; simp
    have hw : s.cZ.way back = 0 ∨ s.cZ.way back = 1 ∨ s.cZ.way back = 2 := by unfold bQ.way; split <;> (try split) <;> simp
    unfold Hf
    rw [if_neg (by omega), if_neg (by omega), if_neg (by simp)]
    split
    · rename_i h4
      exact ⟨rfl, .inl ⟨rfl, List.length_eq_zero_iff.1 h4.2, h2⟩⟩
    · rw [hx]
      exact ⟨rfl, .inr ⟨by cases back <;> simp, rfl⟩⟩
  · rw [h1, h2]
    have hw : s.cZ.way back = if back then 2 else 1 := by unfold bQ.way; rw [if_pos (by rw [sK]; exact .inl h3)]
    have hlen : ((A.drop a.toNat).take (b.toNat - a.toNat)).length = b.toNat - a.toNat := by simp; omega
    rw [hw]
    unfold Hf
    rw [if_neg (by cases back <;> simp), if_neg (by omega), if_pos (by cases back <;> simp), if_neg (by simp only [List.getD_cons_zero]; omega)]
    exact ⟨rfl, .inr ⟨by cases back <;> simp, rfl⟩⟩
theorem P5.step (h : P5 s A a b) (hA : A.length ≤ 1024) {i j a' b' : Int} {back : Bool} {l : List Int} (hij : 0 ≤ i ∧ i ≤ j ∧ j ≤ s.c.L.length) (hp : i ≤ a ∧ a ≤ j) (hcut : s.cZ.cut i j = l) (hl : l.length + (b - a) ≤ A.length)
    (ho : 0 ≤ a' ∧ a' ≤ b' ∧ b' ≤ A.length) (hi : i = a') (hL : s.c.L.take i.toNat ++ s.c.L.drop j.toNat = A.take a'.toNat ++ A.drop b'.toNat) (he : l = [] → a = b → a' = b')
    (hx : (if back then l ++ (A.drop a.toNat).take (b.toNat - a.toNat) else (A.drop a.toNat).take (b.toNat - a.toNat) ++ l) = (A.drop a'.toNat).take (b'.toNat - a'.toNat)) :
    P5 ((s.cZ.zG i j back).lQ 0) A a' b' := by
  obtain ⟨h1, h2⟩ := Y5 h hA (back := back) hcut hl
  have hlen := h.len
  have hok := h.ok
  obtain ⟨k1, k2, k3, k4, k5, k6⟩ := ah5 (s := s.cZ) (yQ s) (i := i) (j := j) (back := back) (by rw [sK]; exact hij) (by rw [sK]; omega) h1 (by rw [sK, h.pt]; exact hp)
  rw [sK] at k1
  refine ⟨Fg _ k5, ho, (Ih _ k5).trans (k1.trans hL), (KT _ k5).trans (k2.trans hi), ?_⟩
  rw [ah3 _ k5, afL _ k5, abx _ k5, k3, k4, k6]
  rcases h2 with ⟨q1, q2, q3⟩ | ⟨q1, q2⟩
  · exact .inl ⟨q1, he q2 q3⟩
  · exact .inr ⟨by rw [q1, hx], q2, rfl⟩
theorem P5.back (h : P5 s A a b) (hA : A.length ≤ 1024) (hk : 0 ≤ k ∧ k ≤ a) : P5 ((s.cZ.zG (s.cZ.c.pt - k) s.cZ.c.pt true).lQ 0) A (a - k) b := by
  have hlen := h.len
  have hok := h.ok
  rw [sK, h.pt]
  have e1 : s.cZ.cut (a - k) a = (A.drop (a - k).toNat).take k.toNat := by
    unfold bQ.cut
    rw [sK, h.L, List.drop_append_of_le_length (by simp; omega), List.take_append_of_le_length (by simp; omega), List.drop_take]
    rw [List.take_take]; congr 1; omega
  refine h.step hA (l := (A.drop (a - k).toNat).take k.toNat) (by omega) (by omega) e1 (by simp; omega) (by omega) rfl ?_ ?_ ?_
  · rw [h.L, List.take_append_of_le_length (by simp; omega), List.take_take, List.drop_append, List.drop_of_length_le (by simp; omega), List.nil_append]
    rw [show min (a - k).toNat a.toNat = (a - k).toNat from by omega, show a.toNat - (A.take a.toNat).length = 0 from by simp; omega, List.drop_zero]
  · intro h1 h2
    have h3 := congrArg List.length h1
    simp at h3; omega
  · simp only [if_true]
    rw [show (A.drop a.toNat).take (b.toNat - a.toNat) = ((A.drop (a - k).toNat).drop k.toNat).take (b.toNat - a.toNat) from by rw [List.drop_drop]; congr 2; omega, show b.toNat - (a - k).toNat = k.toNat + (b.toNat - a.toNat) from by omega, List.take_add]
theorem P5.Xd (h : P5 s A a b) (hA : A.length ≤ 1024) : (a = b → ((s.cZ.oI).lQ s.cZ.xg).c.L.length = A.length) ∧
    (a ≠ b → s.cZ.xg = 0 ∧ ((s.cZ.oI).lQ s.cZ.xg).c.L = A ∧ ((s.cZ.oI).lQ s.cZ.xg).c.mark = a ∧ ((s.cZ.oI).lQ s.cZ.xg).c.pt = b) := by
  have hlen := h.len
  have hok := h.ok
  have hi := yQ s
  rcases h.ring with ⟨h1, h2⟩ | ⟨h1, h2, h3⟩
  · have hy : s.cZ.xg = 6 := by unfold bQ.xg; rw [if_pos hi, sK, h1]; rfl
    refine ⟨fun _ => ?_, fun c => absurd h2 c⟩
    have e1 : s.cZ.oI = s.cZ := by unfold bQ.oI; rw [if_neg (by rw [hy]; decide)]
    rw [e1, hy]
    have e2 : (s.cZ.lQ 6).c.L = s.c.L := by
      unfold bQ.lQ; rw [if_pos hi, if_neg (by decide)]
      unfold bQ.cZ bQ.BF; rw [if_neg (by rw [h.inn]; decide)]
    rw [e2]; omega
  · have htop : s.cZ.top = (A.drop a.toNat).take (b.toNat - a.toNat) := by unfold bQ.top; rw [sK, h1, h2]; rfl
    have htl : s.cZ.top.length = b.toNat - a.toNat := by rw [htop]; simp; omega
    have hE : nP s.c.L a a s.cZ.top = 0 := by unfold nP; rw [if_neg (by omega), if_neg (by omega)]
    have hy : s.cZ.xg = 0 := by
      unfold bQ.xg bQ.V7 bQ.rD
      rw [if_pos hi, if_neg (by rw [sK, h1]; simp), if_pos hi, sK, h.pt, hE]
    have hta : (A.take a.toNat).length = a.toNat := by simp; omega
    have e0 : s.c.L.drop a.toNat = A.drop b.toNat := by rw [h.L]; exact List.drop_left' hta
    have e9 : s.c.L.take a.toNat = A.take a.toNat := by rw [h.L]; exact List.take_left' hta
    obtain ⟨r1, r2, r3, r4, r5, r6, r7, r8⟩ := aau hi s.cZ.c.pt s.cZ.c.pt s.cZ.top
    rw [sK, h.pt] at r1 r2
    have hI : s.cZ.DK s.cZ.top = s.cZ.nR s.cZ.c.pt s.cZ.c.pt s.cZ.top := rfl
    rw [sK, h.pt] at hI
    have hL2 : nY s.c.L a a s.cZ.top = A := by
      unfold nY; rw [if_pos hE, e0, e9, htop]
      rw [show A.drop b.toNat = (A.drop a.toNat).drop (b.toNat - a.toNat) from by rw [List.drop_drop]; congr 1; omega, List.append_assoc, List.take_append_drop, List.take_append_drop]
    have hP2 : wH s.c.L a a a s.cZ.top = b := by
      unfold wH iP; rw [if_pos hE]
      split <;> (try split) <;> omega
    have eY : s.cZ.oI = (let t := s.cZ.DK s.cZ.top; { t with mM := true, cls := 2, c := { t.c with mark := smM t.c.L t.c.mark s.cZ.c.pt, fr := s.cZ.c.pt, to := s.cZ.c.pt + s.cZ.top.length } }) := by
      unfold bQ.oI; rw [if_pos hy]
    have gL : s.cZ.oI.c.L = A := by rw [eY]; show (s.cZ.DK s.cZ.top).c.L = A; rw [hI, sK, h.pt] at *; exact r1.trans hL2
    have gP : s.cZ.oI.c.pt = b := by rw [eY]; show (s.cZ.DK s.cZ.top).c.pt = b; rw [hI]; exact r2.trans hP2
    have gI : s.cZ.oI.inn = true := by rw [eY]; show (s.cZ.DK s.cZ.top).inn = true; exact r6
    have gM : s.cZ.oI.c.mark = a := by
      have gL' : (s.cZ.DK s.cZ.top).c.L = A := by have := gL; rw [eY] at this; exact this
      rw [eY]
      show smM (s.cZ.DK s.cZ.top).c.L (s.cZ.DK s.cZ.top).c.mark s.cZ.c.pt = a
      rw [gL', sK, h.pt]
      unfold smM; rw [if_neg (by omega)]
    rw [hy]
    refine ⟨fun _ => by rw [Ih _ gI, gL], fun _ => ⟨rfl, (Ih _ gI).trans gL, (abw _ gI).trans gM, (KT _ gI).trans gP⟩⟩
end
def bk (L : List Int) (xs : List jL) : List Int := (xs.reverse.map Bz).foldl (fun L x => G9 L x.1 x.2.1 x.2.2) L
theorem afP (L : List Int) (xs : List jL) (x : jL) : bk L (xs ++ [x]) = bk (G9 L x.1 x.2.2 x.2.1) xs := by
  unfold bk; rw [List.reverse_append]; rfl
theorem abz (L : List Int) (xs ys : List jL) : bk L (xs ++ ys) = bk (bk L ys) xs := by
  unfold bk; rw [List.reverse_append, List.map_append, List.foldl_append]
theorem adu (L : List Int) (p m : Int) (l : List jL) : (bQ.apps (L, p, m) l).1 = l.foldl (fun L x => G9 L x.1 x.2.1 x.2.2) L := by
  unfold bQ.apps
  induction l generalizing L p m with
  | nil => rfl
  | cons x l ih => exact ih _ _ _
theorem Xf {L : List Int} {i j : Int} {l : List Int} (h : L.length ≤ 1024) : (nY L i j l).length ≤ 1024 := by
  unfold nY; split
  · rename_i hE
    unfold nP at hE
    split at hE
    · simp at hE
    · split at hE
      · simp at hE
      · simp; omega
  · exact h
theorem adv {L : List Int} {a : Int} {dl il : List Int} (h : L.length ≤ 1024) : (G9 L a dl il).length ≤ 1024 := by
  unfold G9; split
  · exact Xf h
  · exact h
theorem ah6 {L : List Int} (h : L.length ≤ 1024) (xs : List jL) : (bk L xs).length ≤ 1024 := by
  unfold bk
  generalize xs.reverse.map Bz = l
  induction l generalizing L with
  | nil => exact h
  | cons x l ih => exact ih (adv h)
theorem abA {L : List Int} {i j : Int} {l : List Int} (h : L.length ≤ 1024) (hE : nP L i j l = 0) : G9 (nY L i j l) (xK L i j l) (qC L i j l) (qB L i j l) = L := by
  have hb : 0 ≤ i ∧ i ≤ j ∧ j ≤ L.length := by
    unfold nP at hE
    split at hE
    · simp at hE
    · omega
  unfold nY xK qC qB
  rw [if_pos hE, if_pos hE, if_pos hE, if_pos hE]
  have hta : (L.take i.toNat).length = i.toNat := by simp; omega
  have hdl : ((L.drop i.toNat).take (j - i).toNat).length = (j - i).toNat := by simp; omega
  have e1 : (L.take i.toNat ++ l ++ L.drop j.toNat).drop i.toNat = l ++ L.drop j.toNat := by rw [List.append_assoc]; exact List.drop_left' hta
  have hf : G6 (L.take i.toNat ++ l ++ L.drop j.toNat) i l = true := by
    unfold G6; rw [e1, List.take_left]; simp; omega
  have hr : nP (L.take i.toNat ++ l ++ L.drop j.toNat) i (i + l.length) ((L.drop i.toNat).take (j - i).toNat) = 0 := by
    unfold nP; rw [if_neg (by simp; omega), if_neg (by simp; omega)]
  have ha : Gy (L.take i.toNat ++ l ++ L.drop j.toNat) i l ((L.drop i.toNat).take (j - i).toNat) = 0 := by
    unfold Gy; rw [if_neg (by simp; omega), hf]; exact hr
  unfold G9
  rw [if_pos ha]
  unfold nY
  rw [if_pos hr, show (i + (l.length : Int)).toNat = i.toNat + l.length from by omega, ← List.drop_drop, e1, List.drop_left]
  rw [List.append_assoc, List.append_assoc, List.take_left' hta]
  rw [show L.drop j.toNat = (L.drop i.toNat).drop (j - i).toNat from by rw [List.drop_drop]; congr 1; omega, List.take_append_drop, List.take_append_drop]
structure UI (L : List Int) (G : List (List jL)) (N : List jL) (A : List Int) (n : Nat) : Prop where
  len : L.length ≤ 1024
  ne : ∀ g ∈ G, g ≠ []
  bk : bk L (G.flatten ++ N) = A
  tot : iK G N ≤ n
structure Nq (s : bQ) (A : List Int) (n : Nat) : Prop where
  inn : s.inn = true
  now : UI s.c.L s.here s.put A n
  was : UI s.was.L (s.was.un s.was.place) [] A n
structure KU (s : bQ) (A : List Int) (n : Nat) : Prop where
  inn : s.inn = false
  put : s.put = []
  now : UI s.c.L s.here [] A n
section
variable {s t : bQ} {A L : List Int} {n m : Nat} {G : List (List jL)} {N : List jL}
theorem UI.more (h : UI L G N A n) (hm : n ≤ m) : UI L G N A m := ⟨h.len, h.ne, h.bk, Nat.le_trans h.tot hm⟩
theorem Nq.more (h : Nq s A n) (hm : n ≤ m) : Nq s A m := ⟨h.inn, h.now.more hm, h.was.more hm⟩
theorem Nq.same (h : Nq s A n) (h1 : t.inn = s.inn) (h2 : t.c.L = s.c.L) (h3 : t.here = s.here) (h4 : t.put = s.put) (h5 : t.was = s.was) : Nq t A n := ⟨h1.trans h.inn, by rw [h2, h3, h4]; exact h.now, by rw [h5]; exact h.was⟩
theorem KU.begin (h : KU s A n) : Nq s.cZ A n := by
  have e : s.cZ = { s with inn := true, was := s.c, cls := 0, killed := false, mM := false, argues := false, whole := true, put := [] } := by unfold bQ.cZ; rw [if_neg (by rw [h.inn]; decide)]
  rw [e]
  exact ⟨rfl, h.now, h.now⟩
theorem Y6 (G : List (List jL)) (N : List jL) (x : jL) : iK G (N ++ [x]) = iK G N + 1 := by unfold iK; simp; omega
theorem Nq.Xg (h : Nq s A n) (hn : n < 16384) (i j : Int) (l : List Int) : Nq (s.nR i j l) A (n + 1) := by
  obtain ⟨h1, h2, h3⟩ := h
  have hlen := h2.len
  unfold bQ.nR
  rw [if_pos h1]
  by_cases hE : nP s.c.L i j l = 0
  · have hb := abA hlen hE
    unfold bQ.vJ
    split
    · rename_i h0
      have hd : qB s.c.L i j l = [] ∧ qC s.c.L i j l = [] := ⟨List.length_eq_zero_iff.1 (by dsimp only at h0; omega), List.length_eq_zero_iff.1 (by dsimp only at h0; omega)⟩
      have hLs : nY s.c.L i j l = s.c.L := by
        have hb2 : 0 ≤ i ∧ i ≤ j ∧ j ≤ s.c.L.length := by
          unfold nP at hE
          split at hE
          · simp at hE
          · omega
        obtain ⟨d1, d2⟩ := hd
        unfold qB at d1; unfold qC at d2
        rw [if_pos hE] at d1 d2
        have d3 := congrArg List.length d1
        simp at d3
        have hij : i = j := by omega
        subst hij d2
        unfold nY; rw [if_pos hE]; simp
      exact ⟨h1, by show UI (nY s.c.L i j l) s.here s.put A (n + 1); rw [hLs]; exact h2.more (by omega), h3.more (by omega)⟩
    · rw [if_neg (by show ¬ 16384 ≤ iK s.here s.put; have := h2.tot; omega)]
      refine ⟨h1, ⟨Xf hlen, h2.ne, ?_, ?_⟩, h3.more (by omega)⟩
      · show bk (nY s.c.L i j l) (s.here.flatten ++ (s.put ++ [_])) = A
        rw [← List.append_assoc, afP]
        show bk (G9 (nY s.c.L i j l) (xK s.c.L i j l) (qC s.c.L i j l) (qB s.c.L i j l)) _ = A
        rw [hb]; exact h2.bk
      · show iK s.here (s.put ++ [_]) ≤ n + 1
        rw [Y6]; have := h2.tot; omega
  · have hL : nY s.c.L i j l = s.c.L := by unfold nY; rw [if_neg hE]
    have hx : (qB s.c.L i j l).length + (qC s.c.L i j l).length = 0 := by unfold qB qC; rw [if_neg hE, if_neg hE]; rfl
    unfold bQ.vJ
    rw [if_pos hx]
    exact ⟨h1, by show UI (nY s.c.L i j l) s.here s.put A (n + 1); rw [hL]; exact h2.more (by omega), h3.more (by omega)⟩
theorem Nq.copy (h : Nq s A n) (i j : Int) (b : Bool) : Nq (s.yu i j b) A n := by
  unfold bQ.yu; split
  · exact h.same rfl rfl rfl rfl rfl
  · exact h
theorem Nr (s : bQ) (on : Bool) : (s.jr on).flatten = s.here.flatten ++ s.put := by
  unfold bQ.jr
  split
  · rename_i h; rw [h, List.append_nil]
  · split
    · rcases List.eq_nil_or_concat s.here with hc | ⟨hs, g, hc⟩
      · rw [hc]; simp
      · rw [List.concat_eq_append] at hc; rw [hc]; simp
    · simp
theorem abB {s : bQ} (on : Bool) (h : ∀ g ∈ s.here, g ≠ []) : ∀ g ∈ s.jr on, g ≠ [] := by
  unfold bQ.jr
  split
  · exact h
  · rename_i hp
    split
    · rcases List.eq_nil_or_concat s.here with hc | ⟨hs, g, hc⟩
      · rw [hc]; simpa using hp
      · rw [List.concat_eq_append] at hc; rw [hc] at h ⊢
        simp only [List.getLast?_append, List.getLast?_singleton, Option.some_or, List.dropLast_concat]
        intro g' hg
        rcases List.mem_append.1 hg with hg | hg
        · exact h g' (List.mem_append.2 (.inl hg))
        · rw [List.mem_singleton.1 hg]; simp [hp]
    · intro g hg
      rcases List.mem_append.1 hg with hg | hg
      · exact h g hg
      · rw [List.mem_singleton.1 hg]; exact hp
theorem TD (G : List (List jL)) (N : List jL) : iK G N = (G.flatten ++ N).length := by unfold iK; rw [List.length_append, List.length_flatten]
theorem UI.flush {s : bQ} (h : UI L s.here s.put A n) (on : Bool) : UI L (s.jr on) [] A n := by
  refine ⟨h.len, abB on h.ne, by rw [List.append_nil, Nr]; exact h.bk, ?_⟩
  rw [TD, List.append_nil, Nr, ← TD]; exact h.tot
theorem Xh (s : bQ) (on : Bool) : (s.eX on).here = s.jr on ∧ (s.eX on).put = [] ∧ (s.eX on).c.L = s.c.L ∧ (s.eX on).was = s.was := by
  unfold bQ.eX
  split
  · rename_i h
    refine ⟨?_, h, rfl, rfl⟩
    unfold bQ.jr; rw [if_pos h]
  · exact ⟨jo _ _ _, rfl, rfl, rfl⟩
theorem UI.drop (h : UI L G [] A n) (hG : G ≠ []) : UI (Go.Proofs.YtpdeedplgmbopaaGreatDoor.bk L (G.getLastD [])) G.dropLast [] A n := by
  rcases List.eq_nil_or_concat G with hc | ⟨hs, g, hc⟩
  · exact absurd hc hG
  · rw [List.concat_eq_append] at hc; subst hc
    obtain ⟨h1, h2, h3, h4⟩ := h
    rw [show (hs ++ [g]).getLastD [] = g from by simp, List.dropLast_concat]
    refine ⟨ah6 h1 _, fun g' hg => h2 g' (List.mem_append.2 (.inl hg)), ?_, ?_⟩
    · rw [List.append_nil] at h3 ⊢
      rw [← h3, List.flatten_append, abz]; simp
    · unfold iK at *; simp at *; omega
theorem Nq.afN (h : Nq s A n) : Nq s.vK A n := by
  obtain ⟨h1, h2, h3⟩ := h
  obtain ⟨f1, f2, f3, f4⟩ := Xh s false
  have hf : UI (s.eX false).c.L (s.eX false).here (s.eX false).put A n := by rw [f1, f2, f3]; exact h2.flush false
  unfold bQ.vK
  rw [if_pos h1]
  dsimp only
  split
  · exact ⟨(PY s false).trans h1, hf, by rw [f4]; exact h3⟩
  · rename_i hG
    rw [f2] at hf
    refine ⟨(PY s false).trans h1, ?_, by show UI (s.eX false).was.L _ [] A n; rw [show (((s.eX false).lV (s.eX false).here.dropLast).KF (((s.eX false).here.getLastD []).reverse.map Bz)).Ce.was = s.was from f4, f4]; exact h3⟩
    have hd := hf.drop hG
    show UI (bQ.apps ((s.eX false).c.L, (s.eX false).c.pt, (s.eX false).c.mark) (((s.eX false).here.getLastD []).reverse.map Bz)).1 (zD (s.eX false).c.un (s.eX false).c.place (s.eX false).here.dropLast (s.eX false).c.place) (s.eX false).put A n
    rw [adu, jo, f2]
    exact hd
theorem Nq.edit (h : Nq s A n) (hn : n < 16384) (p : Jt) : Nq (s.edit p) A (n + 1) := by
  have hm : Nq s A (n + 1) := h.more (by omega)
  unfold bQ.edit
  by_cases k0 : p.kd = 0
  · rw [if_pos k0]
    unfold bQ.Gs; rw [if_pos h.inn]; dsimp only
    by_cases hc : s.Z9 p.text = 0 ∧ s.cls = 0
    · rw [if_pos hc]; exact (h.Xg hn _ _ _).same rfl rfl rfl rfl rfl
    · rw [if_neg hc]; exact h.Xg hn _ _ _
  rw [if_neg k0]
  by_cases k1 : p.kd = 1
  · rw [if_pos k1]
    exact h.Xg hn _ _ _
  rw [if_neg k1]
  by_cases k2 : p.kd = 2
  · rw [if_pos k2]
    exact h.Xg hn _ _ _
  rw [if_neg k2]
  by_cases k3 : p.kd = 3
  · rw [if_pos k3]
    exact h.Xg hn _ _ _
  rw [if_neg k3]
  by_cases k4 : p.kd = 4
  · rw [if_pos k4]
    unfold bQ.zG
    by_cases hc : s.xO p.a p.b p.back = 0
    · rw [if_pos hc]; exact (h.copy _ _ _).Xg hn _ _ _
    · rw [if_neg hc]; exact hm
  rw [if_neg k4]
  by_cases k5 : p.kd = 5
  · rw [if_pos k5]
    exact hm.copy _ _ _
  rw [if_neg k5]
  by_cases k6 : p.kd = 6
  · rw [if_pos k6]
    unfold bQ.oI
    by_cases hc : s.xg = 0
    · rw [if_pos hc]; exact (h.Xg hn s.c.pt s.c.pt s.top).same rfl rfl rfl rfl rfl
    · rw [if_neg hc]; exact hm
  rw [if_neg k6]
  by_cases k7 : p.kd = 7
  · rw [if_pos k7]
    unfold bQ.ajh
    by_cases hc : s.ajg p.a = 0
    · rw [if_pos hc]; exact (h.Xg hn s.c.fr s.c.to (s.afB p.a)).same rfl rfl rfl rfl rfl
    · rw [if_neg hc]; exact hm
  rw [if_neg k7]
  by_cases k8 : p.kd = 8
  · rw [if_pos k8]
    unfold bQ.wK; rw [if_pos h.inn]; exact hm.same rfl rfl rfl rfl rfl
  rw [if_neg k8]
  by_cases k9 : p.kd = 9
  · rw [if_pos k9]
    unfold bQ.agG; rw [if_pos h.inn]; exact hm.same rfl rfl rfl rfl rfl
  rw [if_neg k9]
  by_cases k10 : p.kd = 10
  · rw [if_pos k10]
    unfold bQ.agH; rw [if_pos h.inn]; exact hm.same rfl rfl rfl rfl rfl
  rw [if_neg k10]
  by_cases k11 : p.kd = 11
  · rw [if_pos k11]
    exact hm.afN
  rw [if_neg k11]
  by_cases k17 : p.kd = 17
  · rw [if_pos k17]
    unfold bQ.zH
    by_cases hc : s.yw p.a = 0
    · rw [if_pos hc]; exact hm.same rfl rfl rfl rfl rfl
    · rw [if_neg hc]; exact hm
  rw [if_neg k17]
  exact hm
theorem adw (u : bQ) (h : u.inn = true) : (u.lQ 0).put = [] := by
  by_cases ha : u.argues = true <;> by_cases hp : u.put = [] <;> by_cases hc : u.cls = 2 <;> simp [bQ.lQ, bQ.mD, bQ.kR, bQ.eX, bQ.wI, bQ.lV, bQ.jr, bQ.here, jo, ha, hp, hc, h]
theorem Nq.end_ (h : Nq s A n) (err : Int) : KU (s.lQ err) A n := by
  by_cases he : err = 0
  · subst he
    refine ⟨Fg _ h.inn, adw _ h.inn, ?_⟩
    have e1 : (s.lQ 0).here = s.jr (s.typed && s.c.run) := Og s h.inn
    rw [Ih _ h.inn, e1]
    exact h.now.flush _
  · unfold bQ.lQ
    rw [if_pos h.inn, if_neg he]
    exact ⟨rfl, rfl, h.was⟩
structure ajE where
  parts : List Jt
  err : Int
def bQ.aav (s : bQ) (p : Jt) : bQ := if p.kd ≠ 13 ∧ p.kd < 20 then s.edit p else s
def bQ.amv (s : bQ) (c : ajE) : bQ := (c.parts.foldl bQ.aav s.cZ).lQ c.err
theorem Nq.parts (l : List Jt) : ∀ {s : bQ} {n : Nat}, Nq s A n → n + l.length ≤ 16384 → Nq (l.foldl bQ.aav s) A (n + l.length) := by
  induction l with
  | nil => intro s n h _; exact h
  | cons p l ih =>
    intro s n h hn
    rw [List.length_cons] at hn ⊢
    have h1 : Nq (s.aav p) A (n + 1) := by
      unfold bQ.aav; split
      · exact h.edit (by omega) p
      · exact h.more (by omega)
    have := ih h1 (by omega)
    rwa [show n + 1 + l.length = n + (l.length + 1) from by omega] at this
def amw (cs : List ajE) : Nat := (cs.map fun c => c.parts.length).sum
def P6 (s : bQ) : bQ := s.cZ.vK.lQ 0
def TF (s : bQ) : Nat → bQ
  | 0 => s
  | k + 1 => P6 (TF s k)
theorem KU.adx (h : KU s A n) : s.cZ.here = s.here ∧ s.cZ.put = [] := by
  have e : s.cZ = { s with inn := true, was := s.c, cls := 0, killed := false, mM := false, argues := false, whole := true, put := [] } := by unfold bQ.cZ; rw [if_neg (by rw [h.inn]; decide)]
  rw [e]; exact ⟨rfl, rfl⟩
theorem KU.ajF (h : KU s A n) (hG : s.here ≠ []) : KU (P6 s) A n ∧ s.cZ.vI = 0 ∧ (P6 s).here = s.here.dropLast := by
  have hb := h.begin
  obtain ⟨e1, e2⟩ := h.adx
  have hf : s.cZ.eX false = s.cZ := by unfold bQ.eX; rw [if_pos e2]
  refine ⟨hb.afN.end_ 0, by unfold bQ.vI; rw [if_pos hb.inn, hf, e1, if_neg hG], ?_⟩
  have hi := hb.afN.inn
  have e3 : (P6 s).here = s.cZ.vK.jr (s.cZ.vK.typed && s.cZ.vK.c.run) := Og _ hi
  have e4 : s.cZ.vK = ((s.cZ.lV s.here.dropLast).KF ((s.here.getLastD []).reverse.map Bz)).Ce := by
    unfold bQ.vK; rw [if_pos hb.inn]; dsimp only; rw [hf, e1, if_neg hG]
  rw [e3, e4]
  unfold bQ.jr
  rw [if_pos (by exact e2)]
  exact jo _ _ _
theorem KU.TF (h : KU s A n) : ∀ k, k ≤ s.here.length → KU (TF s k) A n ∧ (Go.Proofs.YtpdeedplgmbopaaGreatDoor.TF s k).here.length = s.here.length - k
  | 0, _ => ⟨h, rfl⟩
  | k + 1, hk => by
    obtain ⟨a, b⟩ := KU.TF h k (by omega)
    obtain ⟨c1, c2, c3⟩ := a.ajF (fun c => by rw [c] at b; simp at b; omega)
    refine ⟨c1, ?_⟩
    show (P6 (Go.Proofs.YtpdeedplgmbopaaGreatDoor.TF s k)).here.length = _
    rw [c3, List.length_dropLast, b]; omega
theorem KU.empty (h : KU s A n) (hG : s.here = []) : s.cZ.vI = 6 ∧ s.cZ.vK = s.cZ ∧ s.cZ.NS = s.cZ ∧ (s.cZ.lQ 0).c.L = A := by
  have hb := h.begin
  obtain ⟨e1, e2⟩ := h.adx
  have hf : s.cZ.eX false = s.cZ := by unfold bQ.eX; rw [if_pos e2]
  refine ⟨by unfold bQ.vI; rw [if_pos hb.inn, hf, e1, if_pos hG], by unfold bQ.vK; rw [if_pos hb.inn]; dsimp only; rw [hf, e1, if_pos hG], by unfold bQ.NS; rw [if_pos hb.inn]; dsimp only; rw [hf, e1, if_pos hG], ?_⟩
  have := h.now.bk
  rw [hG] at this
  rw [Ih _ hb.inn, sK]
  exact this
end
end Go.Proofs.YtpdeedplgmbopaaGreatDoor
end
section
namespace Go.Proofs.YtpdeedplgmbopaaGreatDoor


end Go.Proofs.YtpdeedplgmbopaaGreatDoor
end
section
namespace Go.Proofs.YtpdeedplgmbopaaGreatDoor
open Go.RowKit
def RE (e : jL) : Prop := xR e.2.1 ∧ xR e.2.2
def RG (G : List (List jL)) : Prop := ∀ g ∈ G, ∀ e ∈ g, RE e
structure RC (c : rC) : Prop where
  L : xR c.L
  E : ∀ x ∈ c.E, xR x
  un : ∀ k, RG (c.un k)
structure RS (s : bQ) : Prop where
  c : RC s.c
  put : ∀ e ∈ s.put, RE e
  was : s.inn = true → RC s.was
structure Fr (s t : bQ) : Prop where
  inn : t.inn = s.inn
  was : t.was = s.was
  hl : t.hl = s.hl
  lI : t.lI = s.lI
section
variable {s t u : bQ} {L l : List Int}
theorem xR.nil : xR [] := fun x hx => absurd hx (by simp)
theorem xR.app (h : xR L) (g : xR l) : xR (L ++ l) := fun x hx => (List.mem_append.1 hx).elim (h x) (g x)
theorem xR.take (h : xR L) (n : Nat) : xR (L.take n) := fun x hx => h x (List.mem_of_mem_take hx)
theorem xR.drop (h : xR L) (n : Nat) : xR (L.drop n) := fun x hx => h x (List.mem_of_mem_drop hx)
theorem Fr.refl (s : bQ) : Fr s s := ⟨rfl, rfl, rfl, rfl⟩
theorem Fr.trans (h : Fr s t) (g : Fr t u) : Fr s u := ⟨g.inn.trans h.inn, g.was.trans h.was, g.hl.trans h.hl, g.lI.trans h.lI⟩
def Kept (s t : bQ) : Prop := RS t ∧ Fr s t
end
section
variable {P : Program} {L : List (Nat × Value)} {w0 w : World} {F : HP} {ty : TypeId} {α : Type} {K : Key α} {f : α → Option Value} {a : α} {b : Nat} {x y z : Operand}
theorem Fh [DecidableEq α] {t kt et : TypeId} {v : Value} (H : V w0 w (jv K b f • F)) (ht : P.underlying t = some (.map kt et)) (hk : P.underlying kt = some K.d)
    (hx : ev L x = some (.map (some b))) (hy : ev L y = some (K.mk a)) (hz : ev L z = some v) : zU P L (.insert t x y z) ty w fun _ w' => V w0 w' (jv K b (upd f a v) • F) := yZ (ty := ty) (y := y) (z := z) H ht hk hx hy hz
theorem abC {t t' kt et : TypeId} {a : Option Nat} (ht : P.underlying t = some (.map kt et)) (hx : ev L x = some (.map a)) (hy : ev L y = some (.map none)) : Val P L (.binOp .eql t x y t') ty w (.bool a.isNone) w := fun ρ hρ _ _ _ _ => by
  simp only [execOp, hρ _ _ hx, hρ _ _ hy]
  have h1 : (eqGuard .eql t x y (.map a) (.map none)).run P w = .ok () w := by unfold eqGuard; rfl
  have h2 : (Op.equal t (.map a) (.map none)).run P w = .ok a.isNone w := IG fun d => by cases a <;> simp [Op.equalIn, run_underlying ht]
  have h3 : binOp .eql t (.map a) (.map none) = (do pure (.bool (← Op.equal t (.map a) (.map none)))) := by rfl
  simp only [Sem.run_bind, h1, Result.andThen, h3, h2]
  simp
end
def oJ (P : Int → Bool) (l : List Int) (x : Int) : Int := x + (((l.drop x.toNat).takeWhile P).length : Nat)
def BG (P : Int → Bool) (l : List Int) (x : Int) : Int := x - (((l.take x.toNat).reverse.takeWhile P).length : Nat)
section
variable {P : Int → Bool} {l : List Int} {x : Int}
theorem mO (h : (l.length : Int) ≤ x) : oJ P l x = x := by
  unfold oJ
  rw [List.drop_of_length_le (by omega)]
  simp
theorem yJ (h0 : 0 ≤ x) (h1 : x < l.length) (h : P (l.getD x.toNat 0) = true) : oJ P l x = oJ P l (x + 1) := by
  unfold oJ
  rw [List.getD_eq_getElem?_getD, List.getElem?_eq_getElem (by omega), Option.getD_some] at h
  rw [List.drop_eq_getElem_cons (by omega), List.takeWhile_cons, if_pos h, show (x + 1).toNat = x.toNat + 1 from by omega, List.length_cons]
  omega
theorem qF (h0 : 0 ≤ x) (h1 : x < l.length) (h : ¬ P (l.getD x.toNat 0) = true) : oJ P l x = x := by
  unfold oJ
  rw [List.getD_eq_getElem?_getD, List.getElem?_eq_getElem (by omega), Option.getD_some] at h
  rw [List.drop_eq_getElem_cons (by omega), List.takeWhile_cons, if_neg h]
  simp
theorem yS (h0 : 0 ≤ x) (h1 : x ≤ l.length) : x ≤ oJ P l x ∧ oJ P l x ≤ l.length := by
  unfold oJ
  have h2 := (List.takeWhile_sublist P (l := l.drop x.toNat)).length_le
  rw [List.length_drop] at h2
  omega
theorem Bd (h : x ≤ 0) : BG P l x = x := by
  unfold BG
  rw [show x.toNat = 0 from by omega]
  simp
theorem Xi (h0 : 0 < x) (h1 : x ≤ l.length) : (l.take x.toNat).reverse = l.getD (x - 1).toNat 0 :: (l.take (x - 1).toNat).reverse := by
  rw [show x.toNat = (x - 1).toNat + 1 from by omega, List.take_succ_eq_append_getElem (by omega), List.reverse_append, List.getD_eq_getElem?_getD, List.getElem?_eq_getElem (by omega)]
  rfl
theorem P7 (h0 : 0 < x) (h1 : x ≤ l.length) (h : P (l.getD (x - 1).toNat 0) = true) : BG P l x = BG P l (x - 1) := by
  unfold BG
  rw [Xi h0 h1, List.takeWhile_cons, if_pos h, List.length_cons]
  omega
theorem Em (h0 : 0 < x) (h1 : x ≤ l.length) (h : ¬ P (l.getD (x - 1).toNat 0) = true) : BG P l x = x := by
  unfold BG
  rw [Xi h0 h1, List.takeWhile_cons, if_neg h]
  simp
theorem P8 (h0 : 0 ≤ x) (h1 : x ≤ l.length) : 0 ≤ BG P l x ∧ BG P l x ≤ x := by
  unfold BG
  have h2 := (List.takeWhile_sublist P (l := (l.take x.toNat).reverse)).length_le
  rw [List.length_reverse, List.length_take] at h2
  omega
end
end Go.Proofs.YtpdeedplgmbopaaGreatDoor
end
section
namespace Go.Proofs.YtpdeedplgmbopaaGreatDoor
open Go.RowKit
open _root_.Go.Proofs.Tryz
def jc (r : Int) : Int := if r = 32 ∨ r = 9 ∨ r = 10 then 0 else if r = 95 ∨ iC r = true then 1 else 2
def fE (r : Int) (big : Bool) : Int := if big then min (jc r) 1 else jc r
def En (l : List Int) (x : Int) (big : Bool) : Int :=
  oJ (fun r => jc r == 0) l (if x < l.length then (if fE (l.getD x.toNat 0) big = 0 then x else oJ (fun r => fE r big == fE (l.getD x.toNat 0) big) l x) else x)
section
variable {w0 w : World} {F : HP} {r x : Int} {big : Bool} {l : List Int} {v : Value}
theorem tu (H : V w0 w F) (hT : Bq w0) : jf prog 14 #[.int .i32 r] w fun v' w' => v' = .int .i64 (jc r) ∧ V w0 w' F := by
  refine jE func14 ntmps14 ?_
  refine kH O (aI (bf (bI O (aV (fB O O) (jY O (fun h1 => ?_) (fun h1 => ?_))))))
  · (try simp only [Z] at h1)
    refine bK (bK (jQ O O (bW O (bK (bK (jQ O O (fO O (ET (jS O (aN (aC (dL results14 O ?_))))))))))))
    exact ⟨by unfold jc; rw [if_pos (by omega)], H⟩
  · (try simp only [Z] at h1)
    refine bF (bW O (bF (aV (fB O O) (iH O O (jY O (fun h2 => ?_) (fun h2 => ?_))))))
    · (try simp only [Z] at h2)
      refine bK (bK (jQ O O (fO O (ET (jS O (aN (aC (dL results14 O ?_))))))))
      exact ⟨by unfold jc; rw [if_pos (by omega)], H⟩
    · (try simp only [Z] at h2)
      refine bF (bW O (bF (aV (fB O O) (iH O O (fO O (bg O (fun h3 => ?_) (fun h3 => ?_)))))))
      · (try simp only [Z] at h3)
        refine jS O (aN (aC (dL results14 O ?_)))
        exact ⟨by unfold jc; rw [if_pos (by omega)], H⟩
      · (try simp only [Z] at h3)
        refine bI O (aV (fB O O) (jY O (fun h4 => ?_) (fun h4 => ?_)))
        · (try simp only [Z] at h4)
          refine bK (bK (jQ O O (fO O (ET (jS O (aN (aC (dL results14 O ?_))))))))
          exact ⟨by unfold jc; rw [if_neg (by omega), if_pos (by first | (left; omega) | (right; assumption))], H⟩
        · (try simp only [Z] at h4)
          refine bF (bW O (bF (dX O func47 (Ym H hT) ?_)))
          rintro _ w1 ⟨rfl, H1⟩
          refine iH O O (fO O (bg O (fun h5 => ?_) (fun h5 => ?_)))
          · (try simp only [Z] at h5)
            refine jS O (aN (aC (dL results14 O ?_)))
            exact ⟨by unfold jc; rw [if_neg (by omega), if_pos (by first | (left; omega) | (right; assumption))], H1⟩
          · (try simp only [Z] at h5)
            refine bU (aH (aU (jS O (dL results14 O ?_))))
            exact ⟨by unfold jc; rw [if_neg (by omega), if_neg (by intro c; rcases c with c | c; omega; simp_all)], H1⟩
theorem nZ (H : V w0 w F) (hT : Bq w0) : jf prog 142 #[.int .i32 r, .bool big] w fun v' w' => v' = .int .i64 (fE r big) ∧ V w0 w' F := by
  refine qo func142 ntmps142 ?_
  refine kH O (aI (bI O (iW O (fun h1 => ?_) (fun h1 => ?_))))
  · (try simp only [Z] at h1)
    have hb : big = true := h1
    refine bI O (dX O func14 (tu H hT) ?_)
    rintro _ w1 ⟨rfl, H1⟩
    refine aV (mW O O) (fP O (aC (dL results142 O ?_)))
    exact ⟨by unfold fE; rw [if_pos hb], H1⟩
  · (try simp only [Z] at h1)
    have hb : big = false := h1
    refine gy (bI O (dX O func14 (tu H hT) ?_))
    rintro _ w2 ⟨rfl, H2⟩
    refine fP O (dL results142 O ?_)
    exact ⟨by unfold fE; rw [if_neg (by rw [hb]; decide)], H2⟩
end
section
variable {w0 w : World} {F : HP} {r x : Int} {big : Bool} {l : List Int} {v : Value}
theorem abD (H : V w0 w F) (hr : jO w0 F .i32 v l) (hT : Bq w0) (hx0 : 0 ≤ x) (hx1 : x ≤ l.length) : jf prog 95 #[v, .int .i64 x, .bool big] w fun v' w' => v' = .int .i64 (En l x big) ∧ V w0 w' F := by
 have hl9 : l.length ≤ 9223372036854775807 := by have := (hr _ H).open; obtain ⟨a, c, e, h3, h4, _⟩ := this; omega
 refine EU func95 ntmps95 ?_
 refine kH O (aI (bI O (bW O (aV (gZ (hr _ (H)) ah O) (aV (gG O O) (iW O (fun h1 => ?_) (fun h1 => ?_)))))))
 ·(try simp only [Z] at h1)
  refine bI O (bW O ?_)
  obtain ⟨bv, ov, cv, ev⟩ := gB.qN (hr _ (H)) (by omega)
  cases ev
  refine aV (dI ah bP O O (by omega)) ?_
  refine aV (dW (bV bC O) O (by first | exact gB.lN (hr _ (H)) (by omega) | exact gB.uP (hr _ (H)) (by omega) | exact gB.wO (hr _ (H)) (by omega))) ?_
  refine bW O (dX O func142 (nZ H hT) ?_)
  rintro _ w1 ⟨rfl, H1⟩
  refine fO O (bI O (aV (fF O O) (iW O (fun h2 => ?_) (fun h2 => ?_))))
  ·(try simp only [Z] at h2)
   have hk : ¬ fE (l.getD x.toNat 0) big = 0 := h2
   refine bf ?_
   refine iy [(0, _), (2, _), (7, _)] (fun (y : Int) => [(1, .int .i64 y)]) (fun (y : Int) W => ((0 ≤ y ∧ y ≤ l.length) ∧ oJ (fun r => fE r big == fE (l.getD x.toNat 0) big) l y = oJ (fun r => fE r big == fE (l.getD x.toNat 0) big) l x) ∧ V w0 W F) (fun (y : Int) => (l.length - y).toNat) (x) wW lH ⟨⟨⟨hx0, hx1⟩, O⟩, H1⟩ ?_
   rintro y w2 ⟨⟨⟨hy0, hyl⟩, hy⟩, HL⟩
   dsimp only [List.cons_append, List.nil_append]
   refine aI (bI O (bW O (aV (jd ah O) (aV (gG O O) (jY O (fun h3 => ?_) (fun h3 => ?_))))))
   ·(try simp only [Z] at h3)
    refine bF (bW O (bF (bW O (bF (aV (dI ah bP O O (by omega)) (bF ?_))))))
    refine aV (dW (bV bC O) O (by first | exact gB.lN (hr _ (HL)) (by omega) | exact gB.uP (hr _ (HL)) (by omega) | exact gB.wO (hr _ (HL)) (by omega))) ?_
    refine bF (bW O (bF (dX O func142 (nZ HL hT) ?_)))
    rintro _ w3 ⟨rfl, H3⟩
    refine bF (bW O (bF (aV (fB O O) (jQ O O (iW O (fun h4 => ?_) (fun h4 => ?_))))))
    ·(try simp only [Z] at h4)
     have hP : (fE (l.getD y.toNat 0) big == fE (l.getD x.toNat 0) big) = true := by rw [beq_iff_eq]; exact h4
     refine gy (bf (aF (bW O (aV (fH O O (by omega)) (gW O (bT (aH ?_)))))))
     refine dN (y + 1) ?_ ?_ ?_ ?_
     ·exact lH
     ·exact wW
     ·(try dsimp only)
      first | done | exact ⟨⟨⟨by omega, by omega⟩, (yJ hy0 (by omega) hP).symm.trans hy⟩, H3⟩
     ·(try dsimp only); omega
    ·(try simp only [Z] at h4)
     have hP : ¬ (fE (l.getD y.toNat 0) big == fE (l.getD x.toNat 0) big) = true := by rw [beq_iff_eq]; exact h4
     refine dR (aP (aP (bH (aU (aI (bf ?_))))))
     try have e1 : oJ (fun r => fE r big == fE (l.getD x.toNat 0) big) l x = y := hy.symm.trans (by first | exact mO (by omega) | exact qF hy0 (by omega) hP)
     refine iy [(0, _)] (fun (z : Int) => [(1, .int .i64 z)]) (fun (z : Int) W => ((0 ≤ z ∧ z ≤ l.length) ∧ En l x big = oJ (fun r => jc r == 0) l z) ∧ V w0 W F) (fun (z : Int) => (l.length - z).toNat) (_) lH lH ⟨⟨⟨by omega, by omega⟩, by unfold En; first | (rw [if_neg (by omega)]; done) | (rw [if_pos (by omega), if_pos hk]; done) | (rw [if_pos (by omega), if_neg hk, e1]; done)⟩, H3⟩ ?_
     rintro z w4 ⟨⟨⟨hz0, hzl⟩, hz⟩, HM⟩
     dsimp only [List.cons_append, List.nil_append]
     refine aI (bI O (bW O (aV (jd ah O) (aV (gG O O) (jY O (fun h5 => ?_) (fun h5 => ?_))))))
     ·(try simp only [Z] at h5)
      refine bF (bW O (bF (bW O (bF (aV (dI ah bP O O (by omega)) (bF ?_))))))
      refine aV (dW (bV bC O) O (by first | exact gB.lN (hr _ (HM)) (by omega) | exact gB.uP (hr _ (HM)) (by omega) | exact gB.wO (hr _ (HM)) (by omega))) ?_
      refine bF (dX O func14 (tu HM hT) ?_)
      rintro _ w5 ⟨rfl, H5⟩
      refine bF (aV (fB O O) (jQ O O (iW O (fun h6 => ?_) (fun h6 => ?_))))
      ·(try simp only [Z] at h6)
       have hQ : (jc (l.getD z.toNat 0) == 0) = true := by rw [beq_iff_eq]; exact h6
       refine gy (bf (aF (bW O (aV (fH O O (by omega)) (gW O (bT (aH ?_)))))))
       refine dN (z + 1) ?_ ?_ ?_ ?_
       ·exact lH
       ·exact lH
       ·(try dsimp only)
        first | done | exact ⟨⟨⟨by omega, by omega⟩, hz.trans (yJ hz0 (by omega) hQ)⟩, H5⟩
       ·(try dsimp only); omega
      ·(try simp only [Z] at h6)
       have hQ : ¬ (jc (l.getD z.toNat 0) == 0) = true := by rw [beq_iff_eq]; exact h6
       refine dR (aP (aP (bH (aU (bI O (fP O (dL results95 O ?_)))))))
       exact ⟨by rw [hz]; first | rw [mO (by omega)] | rw [qF hz0 (by omega) hQ], H5⟩
     ·(try simp only [Z] at h5)
      refine bK (bK (bK (bK (bK (bK (iH O O (iR (oL (dR (aP (aP (bH (aU (bI O (fP O (dL results95 O ?_))))))))))))))))
      exact ⟨by rw [hz]; first | rw [mO (by omega)] | rw [qF hz0 (by omega) hQ], HM⟩
   ·(try simp only [Z] at h3)
    refine bK (bK (bK (bK (bK (bK (bK (bK (iH O O (iR (oL (dR (aP (aP (bH (aU (aI (bf ?_)))))))))))))))))
    try have e1 : oJ (fun r => fE r big == fE (l.getD x.toNat 0) big) l x = y := hy.symm.trans (by first | exact mO (by omega) | exact qF hy0 (by omega) hP)
    refine iy [(0, _)] (fun (z : Int) => [(1, .int .i64 z)]) (fun (z : Int) W => ((0 ≤ z ∧ z ≤ l.length) ∧ En l x big = oJ (fun r => jc r == 0) l z) ∧ V w0 W F) (fun (z : Int) => (l.length - z).toNat) (_) lH lH ⟨⟨⟨by omega, by omega⟩, by unfold En; first | (rw [if_neg (by omega)]; done) | (rw [if_pos (by omega), if_pos hk]; done) | (rw [if_pos (by omega), if_neg hk, e1]; done)⟩, HL⟩ ?_
    rintro z w6 ⟨⟨⟨hz0, hzl⟩, hz⟩, HM⟩
    dsimp only [List.cons_append, List.nil_append]
    refine aI (bI O (bW O (aV (jd ah O) (aV (gG O O) (jY O (fun h7 => ?_) (fun h7 => ?_))))))
    ·(try simp only [Z] at h7)
     refine bF (bW O (bF (bW O (bF (aV (dI ah bP O O (by omega)) (bF ?_))))))
     refine aV (dW (bV bC O) O (by first | exact gB.lN (hr _ (HM)) (by omega) | exact gB.uP (hr _ (HM)) (by omega) | exact gB.wO (hr _ (HM)) (by omega))) ?_
     refine bF (dX O func14 (tu HM hT) ?_)
     rintro _ w7 ⟨rfl, H7⟩
     refine bF (aV (fB O O) (jQ O O (iW O (fun h8 => ?_) (fun h8 => ?_))))
     ·(try simp only [Z] at h8)
      have hQ : (jc (l.getD z.toNat 0) == 0) = true := by rw [beq_iff_eq]; exact h8
      refine gy (bf (aF (bW O (aV (fH O O (by omega)) (gW O (bT (aH ?_)))))))
      refine dN (z + 1) ?_ ?_ ?_ ?_
      ·exact lH
      ·exact lH
      ·(try dsimp only)
       first | done | exact ⟨⟨⟨by omega, by omega⟩, hz.trans (yJ hz0 (by omega) hQ)⟩, H7⟩
      ·(try dsimp only); omega
     ·(try simp only [Z] at h8)
      have hQ : ¬ (jc (l.getD z.toNat 0) == 0) = true := by rw [beq_iff_eq]; exact h8
      refine dR (aP (aP (bH (aU (bI O (fP O (dL results95 O ?_)))))))
      exact ⟨by rw [hz]; first | rw [mO (by omega)] | rw [qF hz0 (by omega) hQ], H7⟩
    ·(try simp only [Z] at h7)
     refine bK (bK (bK (bK (bK (bK (iH O O (iR (oL (dR (aP (aP (bH (aU (bI O (fP O (dL results95 O ?_))))))))))))))))
     exact ⟨by rw [hz]; first | rw [mO (by omega)] | rw [qF hz0 (by omega) hQ], HM⟩
  ·(try simp only [Z] at h2)
   have hk : fE (l.getD x.toNat 0) big = 0 := by have h9 := h2; omega
   refine gy (aI (bf ?_))
   try have e1 : oJ (fun r => fE r big == fE (l.getD x.toNat 0) big) l x = y := hy.symm.trans (by first | exact mO (by omega) | exact qF hy0 (by omega) hP)
   refine iy [(0, _)] (fun (z : Int) => [(1, .int .i64 z)]) (fun (z : Int) W => ((0 ≤ z ∧ z ≤ l.length) ∧ En l x big = oJ (fun r => jc r == 0) l z) ∧ V w0 W F) (fun (z : Int) => (l.length - z).toNat) (_) lH lH ⟨⟨⟨by omega, by omega⟩, by unfold En; first | (rw [if_neg (by omega)]; done) | (rw [if_pos (by omega), if_pos hk]; done) | (rw [if_pos (by omega), if_neg hk, e1]; done)⟩, H1⟩ ?_
   rintro z w8 ⟨⟨⟨hz0, hzl⟩, hz⟩, HM⟩
   dsimp only [List.cons_append, List.nil_append]
   refine aI (bI O (bW O (aV (jd ah O) (aV (gG O O) (jY O (fun h9 => ?_) (fun h9 => ?_))))))
   ·(try simp only [Z] at h9)
    refine bF (bW O (bF (bW O (bF (aV (dI ah bP O O (by omega)) (bF ?_))))))
    refine aV (dW (bV bC O) O (by first | exact gB.lN (hr _ (HM)) (by omega) | exact gB.uP (hr _ (HM)) (by omega) | exact gB.wO (hr _ (HM)) (by omega))) ?_
    refine bF (dX O func14 (tu HM hT) ?_)
    rintro _ w9 ⟨rfl, H9⟩
    refine bF (aV (fB O O) (jQ O O (iW O (fun h10 => ?_) (fun h10 => ?_))))
    ·(try simp only [Z] at h10)
     have hQ : (jc (l.getD z.toNat 0) == 0) = true := by rw [beq_iff_eq]; exact h10
     refine gy (bf (aF (bW O (aV (fH O O (by omega)) (gW O (bT (aH ?_)))))))
     refine dN (z + 1) ?_ ?_ ?_ ?_
     ·exact lH
     ·exact lH
     ·(try dsimp only)
      first | done | exact ⟨⟨⟨by omega, by omega⟩, hz.trans (yJ hz0 (by omega) hQ)⟩, H9⟩
     ·(try dsimp only); omega
    ·(try simp only [Z] at h10)
     have hQ : ¬ (jc (l.getD z.toNat 0) == 0) = true := by rw [beq_iff_eq]; exact h10
     refine dR (aP (aP (bH (aU (bI O (fP O (dL results95 O ?_)))))))
     exact ⟨by rw [hz]; first | rw [mO (by omega)] | rw [qF hz0 (by omega) hQ], H9⟩
   ·(try simp only [Z] at h9)
    refine bK (bK (bK (bK (bK (bK (iH O O (iR (oL (dR (aP (aP (bH (aU (bI O (fP O (dL results95 O ?_))))))))))))))))
    exact ⟨by rw [hz]; first | rw [mO (by omega)] | rw [qF hz0 (by omega) hQ], HM⟩
 ·(try simp only [Z] at h1)
  refine gy (aI (bf ?_))
  try have e1 : oJ (fun r => fE r big == fE (l.getD x.toNat 0) big) l x = y := hy.symm.trans (by first | exact mO (by omega) | exact qF hy0 (by omega) hP)
  refine iy [(0, _)] (fun (z : Int) => [(1, .int .i64 z)]) (fun (z : Int) W => ((0 ≤ z ∧ z ≤ l.length) ∧ En l x big = oJ (fun r => jc r == 0) l z) ∧ V w0 W F) (fun (z : Int) => (l.length - z).toNat) (_) lH lH ⟨⟨⟨by omega, by omega⟩, by unfold En; first | (rw [if_neg (by omega)]; done) | (rw [if_pos (by omega), if_pos hk]; done) | (rw [if_pos (by omega), if_neg hk, e1]; done)⟩, H⟩ ?_
  rintro z w10 ⟨⟨⟨hz0, hzl⟩, hz⟩, HM⟩
  dsimp only [List.cons_append, List.nil_append]
  refine aI (bI O (bW O (aV (gZ (hr _ (HM)) ah O) (aV (gG O O) (jY O (fun h11 => ?_) (fun h11 => ?_))))))
  ·(try simp only [Z] at h11)
   refine bF (bW O (bF (bW O (bF ?_))))
   obtain ⟨bv, ov, cv, ev⟩ := gB.qN (hr _ (HM)) (by omega)
   cases ev
   refine aV (dI ah bP O O (by omega)) (bF ?_)
   refine aV (dW (bV bC O) O (by first | exact gB.lN (hr _ (HM)) (by omega) | exact gB.uP (hr _ (HM)) (by omega) | exact gB.wO (hr _ (HM)) (by omega))) ?_
   refine bF (dX O func14 (tu HM hT) ?_)
   rintro _ FK ⟨rfl, ru⟩
   refine bF (aV (fB O O) (jQ O O (iW O (fun h12 => ?_) (fun h12 => ?_))))
   ·(try simp only [Z] at h12)
    have hQ : (jc (l.getD z.toNat 0) == 0) = true := by rw [beq_iff_eq]; exact h12
    refine gy (bf (aF (bW O (aV (fH O O (by omega)) (gW O (bT (aH ?_)))))))
    refine dN (z + 1) ?_ ?_ ?_ ?_
    ·exact lH
    ·exact lH
    ·(try dsimp only)
     first | done | exact ⟨⟨⟨by omega, by omega⟩, hz.trans (yJ hz0 (by omega) hQ)⟩, ru⟩
    ·(try dsimp only); omega
   ·(try simp only [Z] at h12)
    have hQ : ¬ (jc (l.getD z.toNat 0) == 0) = true := by rw [beq_iff_eq]; exact h12
    refine dR (aP (aP (bH (aU (bI O (fP O (dL results95 O ?_)))))))
    exact ⟨by rw [hz]; first | rw [mO (by omega)] | rw [qF hz0 (by omega) hQ], ru⟩
  ·(try simp only [Z] at h11)
   refine bK (bK (bK (bK (bK (bK (iH O O (iR (oL (dR (aP (aP (bH (aU (bI O (fP O (dL results95 O ?_))))))))))))))))
   exact ⟨by rw [hz]; first | rw [mO (by omega)] | rw [qF hz0 (by omega) hQ], HM⟩
end
end Go.Proofs.YtpdeedplgmbopaaGreatDoor
end
