import Derived.Test.YtgmpclifphbjkaaGreatDoorZ2
import Derived.Test.YtgmpclifphbjkaaGreatDoorZ10
import Derived.Test.YtgmpclifphbjkaaGreatDoorZ13
import Derived.Test.YtgmpclifphbjkaaGreatDoorZ17
import Derived.Test.YtgmpclifphbjkaaGreatDoorZ19
import Derived.Test.YtgmpclifphbjkaaGreatDoorZ18
import Derived.Laws.StructEq
import Derived.Test.YtgmpclifphbjkaaGreatDoorZ6
set_option linter.unusedSimpArgs false
set_option linter.unusedVariables false
/- Texts of mine, joined, their names in short: ETyM ETyM2 EdSt EKillM EUndoM UBackM EdR32 ERefM ESame Ref7 Ref7b. -/
section
namespace Go.Proofs.YtgmpclifphbjkaaGreatDoor
open Go.RowKit
structure Out (s : aY) (L : List Int) (pt : Int) (G : List (List eH)) (run : Bool) : Prop where
  inn : s.inn = false
  L : s.c.L = L
  pt : s.c.pt = pt
  G : s.c.un s.c.place = G
  run : s.c.run = run
  over : s.c.over = false
structure WM (s : aY) (L : List Int) (pt : Int) (G : List (List eH)) (run : Bool) : Prop where
  inn : s.inn = true
  L : s.c.L = L
  pt : s.c.pt = pt
  G : s.c.un s.c.place = G
  run : s.c.run = run
  over : s.c.over = false
  put : s.put = []
  cls : s.cls = 0
  whole : s.whole = true
section
variable {s : aY} {L : List Int} {pt : Int} {G : List (List eH)} {run : Bool} {r : Int}
theorem Out.begin (h : Out s L pt G run) : WM s.bF L pt G run ∧ s.EO = 0 := by
  unfold aY.bF aY.EO
  rw [if_neg (by rw [h.inn]; decide), if_neg (by rw [h.inn]; decide)]
  exact ⟨⟨rfl, h.L, h.pt, h.G, h.run, h.over, rfl, rfl, rfl⟩, rfl⟩
def LJ (G : List (List eH)) (run : Bool) (x : eH) : List (List eH) := if run then (match G.getLast? with | some g => G.dropLast ++ [g ++ [x]] | none => [[x]]) else G ++ [[x]]
theorem WM.WO (h : WM s L pt G run) (h1 : 0 ≤ pt ∧ pt ≤ L.length) (h2 : L.length < 1024) (h3 : dX G [] < 16384) :
    s.Bc [r] = 0 ∧ s.jM [r] = { (s.jm (L.take pt.toNat ++ [r] ++ L.drop pt.toNat) (pt + 1) (nK L s.c.mark pt pt [r])) with put := [(pt, [], [r])], cls := 3 } := by
  have hto : s.jf [r] = pt := by unfold aY.jf; rw [h.over]; exact h.pt
  have hE : iM L pt pt [r] = 0 := by unfold iM; rw [if_neg (by omega), if_neg (by simp; omega)]
  have hE' : s.jE s.c.pt (s.jf [r]) [r] = 0 := by unfold aY.jE; rw [if_pos h.inn, hto, h.pt, h.L]; exact hE
  have hP : mW L pt pt pt [r] = pt + 1 := by unfold mW bK; rw [if_pos hE, if_neg (by omega), if_pos (by omega)]; rfl
  have hD : jg L pt pt [r] = [] := by unfold jg; rw [if_pos hE]; simp
  have hI : jh L pt pt [r] = [r] := by unfold jh; rw [if_pos hE]
  have hA : mX L pt pt [r] = pt := by unfold mX; rw [if_pos hE]
  have hL : iR L pt pt [r] = L.take pt.toNat ++ [r] ++ L.drop pt.toNat := by unfold iR; rw [if_pos hE]
  have hS : s.eY s.c.pt (s.jf [r]) [r] = { (s.jm (L.take pt.toNat ++ [r] ++ L.drop pt.toNat) (pt + 1) (nK L s.c.mark pt pt [r])) with put := [(pt, [], [r])] } := by
    unfold aY.eY
    rw [if_pos h.inn, hto, h.pt, h.L, hP, hD, hI, hA, hL]
    unfold aY.jZ
    rw [if_neg (by simp), if_neg (by
      show ¬ 16384 ≤ dX (s.c.un s.c.place) s.put
      rw [h.G, h.put]; omega)]
    show _ = _
    unfold aY.jm
    simp only [h.put, List.nil_append]
  refine ⟨hE', ?_⟩
  unfold aY.jM
  rw [if_pos h.inn]
  dsimp only
  rw [if_pos ⟨hE', h.cls⟩, hS]
theorem Fv (u : aY) (h : u.inn = true) : (u.iE 0).c.L = u.c.L := by by_cases ha : u.argues = true <;> by_cases hp : u.put = [] <;> by_cases hc : u.cls = 2 <;> simp [aY.iE, aY.jR, aY.fV, aY.bG, aY.um, aY.iY, aY.gV, aY.here, eX, ha, hp, hc, h]
theorem Js (u : aY) (h : u.inn = true) : (u.iE 0).c.pt = u.c.pt := by by_cases ha : u.argues = true <;> by_cases hp : u.put = [] <;> by_cases hc : u.cls = 2 <;> simp [aY.iE, aY.jR, aY.fV, aY.bG, aY.um, aY.iY, aY.gV, aY.here, eX, ha, hp, hc, h]
theorem X6 (u : aY) (h : u.inn = true) : (u.iE 0).c.E = u.c.E := by by_cases ha : u.argues = true <;> by_cases hp : u.put = [] <;> by_cases hc : u.cls = 2 <;> simp [aY.iE, aY.jR, aY.fV, aY.bG, aY.um, aY.iY, aY.gV, aY.here, eX, ha, hp, hc, h]
theorem VI (u : aY) (h : u.inn = true) : (u.iE 0).c.at_ = u.c.at_ := by by_cases ha : u.argues = true <;> by_cases hp : u.put = [] <;> by_cases hc : u.cls = 2 <;> simp [aY.iE, aY.jR, aY.fV, aY.bG, aY.um, aY.iY, aY.gV, aY.here, eX, ha, hp, hc, h]
theorem Io (u : aY) (h : u.inn = true) : (u.iE 0).c.over = u.c.over := by by_cases ha : u.argues = true <;> by_cases hp : u.put = [] <;> by_cases hc : u.cls = 2 <;> simp [aY.iE, aY.jR, aY.fV, aY.bG, aY.um, aY.iY, aY.gV, aY.here, eX, ha, hp, hc, h]
theorem yF (u : aY) (h : u.inn = true) : (u.iE 0).inn = false := by by_cases ha : u.argues = true <;> by_cases hp : u.put = [] <;> by_cases hc : u.cls = 2 <;> simp [aY.iE, aY.jR, aY.fV, aY.bG, aY.um, aY.iY, aY.gV, aY.here, eX, ha, hp, hc, h]
theorem QE (u : aY) (h : u.inn = true) : (u.iE 0).c.last = u.cls := by by_cases ha : u.argues = true <;> by_cases hp : u.put = [] <;> by_cases hc : u.cls = 2 <;> simp [aY.iE, aY.jR, aY.fV, aY.bG, aY.um, aY.iY, aY.gV, aY.here, eX, ha, hp, hc, h]
theorem LK (u : aY) (h : u.inn = true) : (u.iE 0).c.run = (u.typed && (!u.put.isEmpty || u.c.run)) := by by_cases ha : u.argues = true <;> by_cases hp : u.put = [] <;> by_cases hc : u.cls = 2 <;> simp [aY.iE, aY.jR, aY.fV, aY.bG, aY.um, aY.iY, aY.gV, aY.here, eX, ha, hp, hc, h]
theorem DW (u : aY) (h : u.inn = true) : (u.iE 0).c.un (u.iE 0).c.place = u.gV (u.typed && u.c.run) := by by_cases ha : u.argues = true <;> by_cases hp : u.put = [] <;> by_cases hc : u.cls = 2 <;> simp [aY.iE, aY.jR, aY.fV, aY.bG, aY.um, aY.iY, aY.gV, aY.here, eX, ha, hp, hc, h]
theorem WM.typed (h : WM s L pt G run) (h1 : 0 ≤ pt ∧ pt ≤ L.length) (h2 : L.length < 1024) (h3 : dX G [] < 16384) :
    Out ((s.jM [r]).iE 0) (L.take pt.toNat ++ [r] ++ L.drop pt.toNat) (pt + 1) (LJ G run (pt, [], [r])) true ∧ (s.jM [r]).zU 0 = 0 := by
  obtain ⟨_, e⟩ := h.WO (r := r) h1 h2 h3
  have hu : (s.jM [r]).inn = true := by rw [e]; exact h.inn
  have hT : (s.jM [r]).typed = true := by rw [e]; show (((3 : Int) == 3) && s.whole) = true; rw [h.whole]; rfl
  have hp : (s.jM [r]).put = [(pt, [], [r])] := by rw [e]
  have hr : (s.jM [r]).c.run = run := by rw [e]; exact h.run
  have hh : (s.jM [r]).here = G := by rw [e]; exact h.G
  refine ⟨⟨yF _ hu, (Fv _ hu).trans (by rw [e]; rfl), (Js _ hu).trans (by rw [e]; rfl), ?_, ?_, (Io _ hu).trans (by rw [e]; exact h.over)⟩, by unfold aY.zU; rw [if_pos hu]⟩
  · rw [DW _ hu, hT, hr, Bool.true_and]
    unfold aY.gV LJ
    rw [if_neg (by rw [hp]; simp), hp, hh] <;> rfl
  · rw [LK _ hu, hT, hp]; rfl
def Ip (s : aY) (r : Int) : aY := (s.bF.jM [r]).iE (s.bF.Bc [r])
theorem Out.Ip (h : Out s L pt G run) (h1 : 0 ≤ pt ∧ pt ≤ L.length) (h2 : L.length < 1024) (h3 : dX G [] < 16384) :
    Out (Ip s r) (L.take pt.toNat ++ [r] ++ L.drop pt.toNat) (pt + 1) (LJ G run (pt, [], [r])) true := by
  unfold Go.Proofs.YtgmpclifphbjkaaGreatDoor.Ip
  rw [(h.begin.1.WO (r := r) h1 h2 h3).1]
  exact (h.begin.1.typed h1 h2 h3).1
theorem Iq (hi : s.inn = true) (hL : s.c.L = L) (hpt : s.c.pt = pt) (hG : s.here = G) (ho : s.c.over = false) (hp : s.put = []) (hc : s.cls = 0) : Out (s.iE 0) L pt G false := by
  have hT : s.typed = false := by unfold aY.typed; rw [hc]; rfl
  refine ⟨yF _ hi, (Fv _ hi).trans hL, (Js _ hi).trans hpt, ?_, ?_, (Io _ hi).trans ho⟩
  · rw [DW _ hi]; unfold aY.gV; rw [if_pos hp]; exact hG
  · rw [LK _ hi, hT]; rfl
theorem WM.end_ (h : WM s L pt G run) : Out (s.iE 0) L pt G false := Iq h.inn h.L h.pt h.G h.over h.put h.cls
theorem Out.move (h : Out s L pt G run) (x : Int) (hx : 0 ≤ x ∧ x ≤ L.length) : Out ((s.bF.vU x).iE 0) L x G false := by
  have hb := h.begin.1
  refine WM.end_ (s := s.bF.vU x) (run := run) ?_
  unfold aY.vU
  rw [if_pos hb.inn]
  refine ⟨hb.inn, hb.L, ?_, hb.G, hb.run, hb.over, hb.put, hb.cls, hb.whole⟩
  show V8 s.bF.c.L.length s.bF.c.pt x = x
  unfold V8
  rw [if_pos (by rw [hb.L]; omega)]
end
end Go.Proofs.YtgmpclifphbjkaaGreatDoor
end
section
namespace Go.Proofs.YtgmpclifphbjkaaGreatDoor
open Go.RowKit
def MF (p : Int) : List Int → List eH
  | [] => []
  | r :: l => (p, [], [r]) :: MF (p + 1) l
theorem Ui (p : Int) (l : List Int) (r : Int) : MF p (l ++ [r]) = MF p l ++ [(p + l.length, [], [r])] := by
  induction l generalizing p with
  | nil => simp [MF]
  | cons x l ih => simp only [List.cons_append, MF, ih, List.length_cons]; rw [show p + 1 + (l.length : Int) = p + ((l.length + 1 : Nat) : Int) from by omega]
theorem VJ (p : Int) (l : List Int) : (MF p l).length = l.length := by induction l generalizing p with
  | nil => rfl
  | cons x l ih => simp [MF, ih]
def yG (G : List (List eH)) (p : Int) (l : List Int) : List (List eH) := if l = [] then G else G ++ [MF p l]
theorem QF (G : List (List eH)) (p : Int) (l : List Int) : dX (yG G p l) [] = dX G [] + l.length := by
  unfold yG dX; split
  · rename_i h; subst h; simp
  · simp [VJ]
theorem Ob (G : List (List eH)) (p : Int) (l : List Int) (r : Int) : LJ (yG G p l) (!l.isEmpty) (p + l.length, [], [r]) = yG G p (l ++ [r]) := by
  unfold LJ yG
  rw [if_neg (show l ++ [r] ≠ [] by simp)]
  cases l with
  | nil => simp [MF]
  | cons x l => rw [if_neg (show ¬ x :: l = [] by simp)]; simp only [List.isEmpty_cons, Bool.not_false, if_true, List.getLast?_append, List.getLast?_singleton, Option.some_or, List.dropLast_concat, Ui]
theorem Ag (s : aY) : s.bF.inn = true := by unfold aY.bF; split; assumption; rfl
theorem Fz (s : aY) (b : Bool) : (s.bG b).inn = s.inn := by unfold aY.bG; split <;> rfl
section
variable {s : aY} {L : List Int} {pt : Int} {G : List (List eH)} {run : Bool} {r : Int}
def FB (s : aY) (l : List Int) : aY := l.foldl Ip s
theorem Out.FB (h : Out s L pt G false) (h1 : 0 ≤ pt ∧ pt ≤ L.length) (l : List Int) (h2 : L.length + l.length ≤ 1024) (h3 : dX G [] + l.length ≤ 16384) :
    Out (FB s l) (L.take pt.toNat ++ l ++ L.drop pt.toNat) (pt + l.length) (yG G pt l) (!l.isEmpty) := by
  suffices hh : ∀ n (l : List Int), l.length = n → L.length + n ≤ 1024 → dX G [] + n ≤ 16384 → Out (Go.Proofs.YtgmpclifphbjkaaGreatDoor.FB s l) (L.take pt.toNat ++ l ++ L.drop pt.toNat) (pt + l.length) (yG G pt l) (!l.isEmpty) from hh _ l rfl h2 h3
  intro n
  induction n with
  | zero =>
    intro l hn _ _
    obtain rfl := List.length_eq_zero_iff.1 hn
    simpa [yG, Go.Proofs.YtgmpclifphbjkaaGreatDoor.FB] using h
  | succ n ih =>
    intro l hn h2 h3
    rcases List.eq_nil_or_concat l with rfl | ⟨l, r, rfl⟩
    · cases hn
    rw [List.concat_eq_append] at hn ⊢
    have hn2 : l.length = n := by simpa using hn
    have h4 := ih l hn2 (by omega) (by omega)
    have hl : (L.take pt.toNat ++ l ++ L.drop pt.toNat).length = L.length + l.length := by simp; omega
    have h5 := h4.Ip (r := r) (by rw [hl]; omega) (by rw [hl]; omega) (by rw [QF]; omega)
    have e1 : (L.take pt.toNat ++ l ++ L.drop pt.toNat).take (pt + l.length).toNat = L.take pt.toNat ++ l := by
      rw [List.take_append_of_le_length (by simp; omega), List.take_of_length_le (by simp; omega)]
    have e2 : (L.take pt.toNat ++ l ++ L.drop pt.toNat).drop (pt + l.length).toNat = L.drop pt.toNat := by
      rw [List.drop_append_of_le_length (by simp; omega), List.drop_of_length_le (by simp; omega), List.nil_append]
    rw [e1, e2, Ob] at h5
    have e3 : Go.Proofs.YtgmpclifphbjkaaGreatDoor.FB s (l ++ [r]) = Go.Proofs.YtgmpclifphbjkaaGreatDoor.Ip (Go.Proofs.YtgmpclifphbjkaaGreatDoor.FB s l) r := by unfold Go.Proofs.YtgmpclifphbjkaaGreatDoor.FB; rw [List.foldl_append]; rfl
    rw [e3]
    rw [show pt + ((l ++ [r]).length : Int) = pt + l.length + 1 from by simp; omega, show (!(l ++ [r]).isEmpty) = true from by simp, ← List.append_assoc]
    exact h5
theorem Uj (A B : List Int) (p m : Int) (r : Int) (h : A.length + B.length ≤ 1024) : ∃ p' m', aY.XD (A ++ r :: B, p, m) ((A.length : Int), [r], []) = (A ++ B, p', m') := by
  refine ⟨_, _, Prod.ext ?_ rfl⟩
  show wE (A ++ r :: B) (A.length : Int) [r] [] = A ++ B
  have hr : iM (A ++ r :: B) (A.length : Int) (A.length + ([r].length : Int)) [] = 0 := by
    unfold iM; rw [if_neg (by simp; omega), if_neg (by simp; omega)]
  have hf : yj (A ++ r :: B) (A.length : Int) [r] = true := by
    unfold yj; simp; omega
  have he : xG (A ++ r :: B) (A.length : Int) [r] [] = 0 := by unfold xG; rw [if_neg (by simp; omega), hf]; exact hr
  unfold wE iR
  rw [if_pos he, if_pos hr]
  rw [show (A.length + ([r].length : Int)).toNat = A.length + 1 from by simp, show (A.length : Int).toNat = A.length from by omega]
  rw [List.take_left, show A.length + 1 = (A ++ [r]).length from by simp, show A ++ r :: B = (A ++ [r]) ++ B from by simp, List.drop_left]
  simp
theorem Uk (l : List Int) (A B : List Int) (p m : Int) (h : A.length + l.length + B.length ≤ 1024) : ∃ p' m', aY.apps (A ++ l ++ B, p, m) ((MF (A.length : Int) l).reverse.map rJ) = (A ++ B, p', m') := by
  induction l generalizing A p m with
  | nil => exact ⟨p, m, by simp [MF, aY.apps]⟩
  | cons r l ih =>
    rw [List.length_cons] at h
    obtain ⟨p1, m1, e1⟩ := ih (A ++ [r]) p m (by simp; omega)
    rw [List.length_append, List.length_singleton] at e1
    have e2 : A ++ r :: l ++ B = A ++ [r] ++ l ++ B := by simp
    show ∃ p' m', aY.apps (A ++ r :: l ++ B, p, m) (((((A.length : Int), [], [r]) :: MF ((A.length : Int) + 1) l).reverse).map rJ) = _
    rw [List.reverse_cons, List.map_append, e2]
    unfold aY.apps at e1 ⊢
    rw [List.foldl_append]
    rw [show ((A.length + 1 : Nat) : Int) = (A.length : Int) + 1 from by omega] at e1
    rw [e1, List.append_assoc, List.singleton_append]
    exact Uj A B p1 m1 r (by omega)
theorem Out.VK {A B l : List Int} (h : Out s (A ++ l ++ B) pt (yG G A.length l) run) (hl : l ≠ []) (hn : A.length + l.length + B.length ≤ 1024) :
    s.bF.pW = 0 ∧ ∃ pt', Out (s.bF.kZ.iE 0) (A ++ B) pt' G false := by
  have hb := h.begin.1
  have hw : yG G A.length l = G ++ [MF A.length l] := by unfold yG; rw [if_neg hl]
  have hf : s.bF.bG false = s.bF := by unfold aY.bG; rw [if_pos hb.put]
  have hh : s.bF.here = G ++ [MF A.length l] := hb.G.trans hw
  obtain ⟨p', m', e⟩ := Uk l A B pt s.bF.c.mark hn
  refine ⟨by unfold aY.pW; rw [if_pos hb.inn, hf, hh, if_neg (by simp)], p', ?_⟩
  have eU : s.bF.kZ = ((s.bF.iY G).jm (A ++ B) p' m').wO := by
    unfold aY.kZ
    rw [if_pos hb.inn]
    dsimp only
    rw [hf, if_neg (by rw [hh]; simp), hh, List.dropLast_concat]
    rw [show (G ++ [MF (A.length : Int) l]).getLastD [] = MF A.length l from by simp]
    unfold aY.ES
    rw [show ((s.bF.iY G).c.L, (s.bF.iY G).c.pt, (s.bF.iY G).c.mark) = (A ++ l ++ B, pt, s.bF.c.mark) from by rw [← hb.L, ← hb.pt]; rfl, e]
  rw [eU]
  exact Iq hb.inn rfl rfl (eX _ _ _) hb.over hb.put hb.cls
end
end Go.Proofs.YtgmpclifphbjkaaGreatDoor
end
section
namespace Go.Proofs.YtgmpclifphbjkaaGreatDoor
open Go.RowKit
def aY.X7 (s : aY) (l : List Int) : Int := if s.inn then 1 else if 1024 < l.length then 3 else 0
def aY.abH (s : aY) (hl : List mM) (base most : Int) (l : List Int) : aY := if s.X7 l = 0 then s.start hl base most l else s
section
variable {w0 w : World} {F : HP} {e p h pr : Nat} {s : aY} {hl : List mM} {base most m : Int} {v : Value} {l : List Int}
end
end Go.Proofs.YtgmpclifphbjkaaGreatDoor
end
section
namespace Go.Proofs.YtgmpclifphbjkaaGreatDoor
open Go.RowKit
section
variable {s : aY}
theorem VL (s : aY) (x : eH) : (s.jZ x).c.L = s.c.L ∧ (s.jZ x).c.pt = s.c.pt ∧ (s.jZ x).c.mark = s.c.mark ∧ (s.jZ x).c.E = s.c.E ∧ (s.jZ x).c.at_ = s.c.at_ ∧ (s.jZ x).inn = s.inn ∧ (s.jZ x).cls = s.cls ∧ (s.jZ x).was = s.was := by
  unfold aY.jZ
  split
  · simp
  · split <;> simp [aY.iY]
theorem VN (h : s.inn = true) (i j : Int) (l : List Int) : (s.eY i j l).c.L = iR s.c.L i j l ∧ (s.eY i j l).c.pt = mW s.c.L s.c.pt i j l ∧ (s.eY i j l).c.mark = nK s.c.L s.c.mark i j l ∧ (s.eY i j l).c.E = s.c.E ∧ (s.eY i j l).c.at_ = s.c.at_ ∧ (s.eY i j l).inn = true ∧ (s.eY i j l).cls = s.cls ∧ (s.eY i j l).was = s.was := by
  unfold aY.eY
  rw [if_pos h]
  obtain ⟨h1, h2, h3, h4, h5, h6, h7, h8⟩ := VL (s.jm (iR s.c.L i j l) (mW s.c.L s.c.pt i j l) (nK s.c.L s.c.mark i j l)) (mX s.c.L i j l, jg s.c.L i j l, jh s.c.L i j l)
  exact ⟨h1, h2, h3, h4, h5, h6.trans h, h7, h8⟩
theorem X8 (h : s.inn = true) {i j : Int} {back : Bool} (hi : 0 ≤ i ∧ i ≤ j ∧ j ≤ s.c.L.length) (hL : s.c.L.length ≤ 1024) (hk : (s.nM i j back).1 = 0) (hp : i ≤ s.c.pt ∧ s.c.pt ≤ j) :
    (s.rX i j back).c.L = s.c.L.take i.toNat ++ s.c.L.drop j.toNat ∧ (s.rX i j back).c.pt = i ∧ (s.rX i j back).c.E = (s.nM i j back).2.1 ∧ (s.rX i j back).c.at_ = (s.nM i j back).2.2 ∧ (s.rX i j back).inn = true ∧ (s.rX i j back).cls = 1 := by
  have hc : s.mZ i j back = 0 := by
    unfold aY.mZ
    rw [if_pos h, if_neg (by unfold aY.lV; omega), hk]
  have hE : iM s.c.L i j [] = 0 := by unfold iM; rw [if_neg (by omega), if_neg (by simp; omega)]
  unfold aY.rX
  rw [if_pos hc]
  have e : s.ng i j back = { s.DV (s.nM i j back).2.1 (s.nM i j back).2.2 with killed := true, cls := 1 } := by unfold aY.ng; rw [if_pos hc]
  have ei : (s.ng i j back).inn = true := by rw [e]; exact h
  obtain ⟨h1, h2, h3, h4, h5, h6, h7, h8⟩ := VN ei i j []
  refine ⟨h1.trans ?_, h2.trans ?_, h4.trans (by rw [e]; rfl), h5.trans (by rw [e]; rfl), h6, h7.trans (by rw [e])⟩
  · rw [show (s.ng i j back).c.L = s.c.L from by rw [e]; rfl]
    unfold iR
    rw [if_pos hE]; simp
  · rw [show (s.ng i j back).c.L = s.c.L from by rw [e]; rfl, show (s.ng i j back).c.pt = s.c.pt from by rw [e]; rfl]
    unfold mW bK
    rw [if_pos hE]
    simp only [List.length_nil]
    split <;> (try split) <;> omega
end
structure Jt (s : aY) (A : List Int) (a b : Int) : Prop where
  inn : s.inn = false
  ok : 0 ≤ a ∧ a ≤ b ∧ b ≤ A.length
  L : s.c.L = A.take a.toNat ++ A.drop b.toNat
  pt : s.c.pt = a
  ring : (s.c.E = [] ∧ a = b) ∨ (s.c.E = [(A.drop a.toNat).take (b.toNat - a.toNat)] ∧ s.c.at_ = 0 ∧ s.c.last = 1)
section
variable {s : aY} {A : List Int} {a b k : Int}
theorem Jt.len (h : Jt s A a b) : (s.c.L.length : Int) = A.length - (b - a) := by
  have := h.ok
  rw [h.L]; simp; omega
theorem sH (s : aY) : s.bF.c = s.c := by unfold aY.bF; split <;> rfl
theorem Oc (h : Jt s A a b) (hA : A.length ≤ 1024) {i j : Int} {back : Bool} {l : List Int} (hcut : s.bF.cut i j = l) (hl : l.length + (b - a) ≤ A.length) :
    (s.bF.nM i j back).1 = 0 ∧ ((s.bF.nM i j back).2.1 = [] ∧ l = [] ∧ a = b ∨ (s.bF.nM i j back).2.1 = [if back then l ++ (A.drop a.toNat).take (b.toNat - a.toNat) else (A.drop a.toNat).take (b.toNat - a.toNat) ++ l] ∧ (s.bF.nM i j back).2.2 = 0) := by
  have ho := h.ok
  have hb : s.bF.killed = false := by unfold aY.bF; rw [if_neg (by rw [h.inn]; decide)]
  unfold aY.nM
  rw [hcut, sH]
  rcases h.ring with ⟨h1, h2⟩ | ⟨h1, h2, h3⟩
  · rw [h1]
    have hx : (A.drop a.toNat).take (b.toNat - a.toNat) = [] := by rw [h2]; simp
    have hw : s.bF.way back = 0 ∨ s.bF.way back = 1 ∨ s.bF.way back = 2 := by unfold aY.way; split <;> (try split) <;> simp
    unfold vI
    rw [if_neg (by omega), if_neg (by omega), if_neg (by simp)]
    split
    · rename_i h4
      exact ⟨rfl, .inl ⟨rfl, List.length_eq_zero_iff.1 h4.2, h2⟩⟩
    · rw [hx]
      exact ⟨rfl, .inr ⟨by cases back <;> simp, rfl⟩⟩
  · rw [h1, h2]
    have hw : s.bF.way back = if back then 2 else 1 := by unfold aY.way; rw [if_pos (by rw [sH]; exact .inl h3)]
    have hlen : ((A.drop a.toNat).take (b.toNat - a.toNat)).length = b.toNat - a.toNat := by simp; omega
    rw [hw]
    unfold vI
    rw [if_neg (by cases back <;> simp), if_neg (by omega), if_pos (by cases back <;> simp), if_neg (by simp only [List.getD_cons_zero]; omega)]
    exact ⟨rfl, .inr ⟨by cases back <;> simp, rfl⟩⟩
theorem Jt.step (h : Jt s A a b) (hA : A.length ≤ 1024) {i j a' b' : Int} {back : Bool} {l : List Int} (hij : 0 ≤ i ∧ i ≤ j ∧ j ≤ s.c.L.length) (hp : i ≤ a ∧ a ≤ j) (hcut : s.bF.cut i j = l) (hl : l.length + (b - a) ≤ A.length)
    (ho : 0 ≤ a' ∧ a' ≤ b' ∧ b' ≤ A.length) (hi : i = a') (hL : s.c.L.take i.toNat ++ s.c.L.drop j.toNat = A.take a'.toNat ++ A.drop b'.toNat) (he : l = [] → a = b → a' = b')
    (hx : (if back then l ++ (A.drop a.toNat).take (b.toNat - a.toNat) else (A.drop a.toNat).take (b.toNat - a.toNat) ++ l) = (A.drop a'.toNat).take (b'.toNat - a'.toNat)) :
    Jt ((s.bF.rX i j back).iE 0) A a' b' := by
  obtain ⟨h1, h2⟩ := Oc h hA (back := back) hcut hl
  have hlen := h.len
  have hok := h.ok
  obtain ⟨k1, k2, k3, k4, k5, k6⟩ := X8 (s := s.bF) (Ag s) (i := i) (j := j) (back := back) (by rw [sH]; exact hij) (by rw [sH]; omega) h1 (by rw [sH, h.pt]; exact hp)
  rw [sH] at k1
  refine ⟨yF _ k5, ho, (Fv _ k5).trans (k1.trans hL), (Js _ k5).trans (k2.trans hi), ?_⟩
  rw [X6 _ k5, VI _ k5, QE _ k5, k3, k4, k6]
  rcases h2 with ⟨q1, q2, q3⟩ | ⟨q1, q2⟩
  · exact .inl ⟨q1, he q2 q3⟩
  · exact .inr ⟨by rw [q1, hx], q2, rfl⟩
theorem Jt.back (h : Jt s A a b) (hA : A.length ≤ 1024) (hk : 0 ≤ k ∧ k ≤ a) : Jt ((s.bF.rX (s.bF.c.pt - k) s.bF.c.pt true).iE 0) A (a - k) b := by
  have hlen := h.len
  have hok := h.ok
  rw [sH, h.pt]
  have e1 : s.bF.cut (a - k) a = (A.drop (a - k).toNat).take k.toNat := by
    unfold aY.cut
    rw [sH, h.L, List.drop_append_of_le_length (by simp; omega), List.take_append_of_le_length (by simp; omega), List.drop_take]
    rw [List.take_take]; congr 1; omega
  refine h.step hA (l := (A.drop (a - k).toNat).take k.toNat) (by omega) (by omega) e1 (by simp; omega) (by omega) rfl ?_ ?_ ?_
  · rw [h.L, List.take_append_of_le_length (by simp; omega), List.take_take, List.drop_append, List.drop_of_length_le (by simp; omega), List.nil_append]
    rw [show min (a - k).toNat a.toNat = (a - k).toNat from by omega, show a.toNat - (A.take a.toNat).length = 0 from by simp; omega, List.drop_zero]
  · intro h1 h2
    have h3 := congrArg List.length h1
    simp at h3; omega
  · simp only [if_true]
    rw [show (A.drop a.toNat).take (b.toNat - a.toNat) = ((A.drop (a - k).toNat).drop k.toNat).take (b.toNat - a.toNat) from by rw [List.drop_drop]; congr 2; omega, show b.toNat - (a - k).toNat = k.toNat + (b.toNat - a.toNat) from by omega, List.take_add]
end
end Go.Proofs.YtgmpclifphbjkaaGreatDoor
end
section
namespace Go.Proofs.YtgmpclifphbjkaaGreatDoor
open Go.RowKit
def bk (L : List Int) (xs : List eH) : List Int := (xs.reverse.map rJ).foldl (fun L x => wE L x.1 x.2.1 x.2.2) L
theorem VO (L : List Int) (xs : List eH) (x : eH) : bk L (xs ++ [x]) = bk (wE L x.1 x.2.2 x.2.1) xs := by
  unfold bk; rw [List.reverse_append]; rfl
theorem QG (L : List Int) (xs ys : List eH) : bk L (xs ++ ys) = bk (bk L ys) xs := by
  unfold bk; rw [List.reverse_append, List.map_append, List.foldl_append]
theorem LM (L : List Int) (p m : Int) (l : List eH) : (aY.apps (L, p, m) l).1 = l.foldl (fun L x => wE L x.1 x.2.1 x.2.2) L := by
  unfold aY.apps
  induction l generalizing L p m with
  | nil => rfl
  | cons x l ih => exact ih _ _ _
theorem LP {L : List Int} {i j : Int} {l : List Int} (h : L.length ≤ 1024) : (iR L i j l).length ≤ 1024 := by
  unfold iR; split
  · rename_i hE
    unfold iM at hE
    split at hE
    · simp at hE
    · split at hE
      · simp at hE
      · simp; omega
  · exact h
theorem Ul {L : List Int} {a : Int} {dl il : List Int} (h : L.length ≤ 1024) : (wE L a dl il).length ≤ 1024 := by
  unfold wE; split
  · exact LP h
  · exact h
theorem X9 {L : List Int} (h : L.length ≤ 1024) (xs : List eH) : (bk L xs).length ≤ 1024 := by
  unfold bk
  generalize xs.reverse.map rJ = l
  induction l generalizing L with
  | nil => exact h
  | cons x l ih => exact ih (Ul h)
theorem QH {L : List Int} {i j : Int} {l : List Int} (h : L.length ≤ 1024) (hE : iM L i j l = 0) : wE (iR L i j l) (mX L i j l) (jh L i j l) (jg L i j l) = L := by
  have hb : 0 ≤ i ∧ i ≤ j ∧ j ≤ L.length := by
    unfold iM at hE
    split at hE
    · simp at hE
    · omega
  unfold iR mX jh jg
  rw [if_pos hE, if_pos hE, if_pos hE, if_pos hE]
  have hta : (L.take i.toNat).length = i.toNat := by simp; omega
  have hdl : ((L.drop i.toNat).take (j - i).toNat).length = (j - i).toNat := by simp; omega
  have e1 : (L.take i.toNat ++ l ++ L.drop j.toNat).drop i.toNat = l ++ L.drop j.toNat := by rw [List.append_assoc]; exact List.drop_left' hta
  have hf : yj (L.take i.toNat ++ l ++ L.drop j.toNat) i l = true := by
    unfold yj; rw [e1, List.take_left]; simp; omega
  have hr : iM (L.take i.toNat ++ l ++ L.drop j.toNat) i (i + l.length) ((L.drop i.toNat).take (j - i).toNat) = 0 := by
    unfold iM; rw [if_neg (by simp; omega), if_neg (by simp; omega)]
  have ha : xG (L.take i.toNat ++ l ++ L.drop j.toNat) i l ((L.drop i.toNat).take (j - i).toNat) = 0 := by
    unfold xG; rw [if_neg (by simp; omega), hf]; exact hr
  unfold wE
  rw [if_pos ha]
  unfold iR
  rw [if_pos hr, show (i + (l.length : Int)).toNat = i.toNat + l.length from by omega, ← List.drop_drop, e1, List.drop_left]
  rw [List.append_assoc, List.append_assoc, List.take_left' hta]
  rw [show L.drop j.toNat = (L.drop i.toNat).drop (j - i).toNat from by rw [List.drop_drop]; congr 1; omega, List.take_append_drop, List.take_append_drop]
structure UI (L : List Int) (G : List (List eH)) (N : List eH) (A : List Int) (n : Nat) : Prop where
  len : L.length ≤ 1024
  ne : ∀ g ∈ G, g ≠ []
  bk : bk L (G.flatten ++ N) = A
  tot : dX G N ≤ n
structure Dn (s : aY) (A : List Int) (n : Nat) : Prop where
  inn : s.inn = true
  now : UI s.c.L s.here s.put A n
  was : UI s.was.L (s.was.un s.was.place) [] A n
structure Bz (s : aY) (A : List Int) (n : Nat) : Prop where
  inn : s.inn = false
  put : s.put = []
  now : UI s.c.L s.here [] A n
section
variable {s t : aY} {A L : List Int} {n m : Nat} {G : List (List eH)} {N : List eH}
theorem UI.more (h : UI L G N A n) (hm : n ≤ m) : UI L G N A m := ⟨h.len, h.ne, h.bk, Nat.le_trans h.tot hm⟩
theorem Dn.more (h : Dn s A n) (hm : n ≤ m) : Dn s A m := ⟨h.inn, h.now.more hm, h.was.more hm⟩
theorem Dn.same (h : Dn s A n) (h1 : t.inn = s.inn) (h2 : t.c.L = s.c.L) (h3 : t.here = s.here) (h4 : t.put = s.put) (h5 : t.was = s.was) : Dn t A n := ⟨h1.trans h.inn, by rw [h2, h3, h4]; exact h.now, by rw [h5]; exact h.was⟩
theorem Bz.begin (h : Bz s A n) : Dn s.bF A n := by
  have e : s.bF = { s with inn := true, was := s.c, cls := 0, killed := false, jy := false, argues := false, whole := true, put := [] } := by unfold aY.bF; rw [if_neg (by rw [h.inn]; decide)]
  rw [e]
  exact ⟨rfl, h.now, h.now⟩
theorem Oe (G : List (List eH)) (N : List eH) (x : eH) : dX G (N ++ [x]) = dX G N + 1 := by unfold dX; simp; omega
theorem Dn.LQ (h : Dn s A n) (hn : n < 16384) (i j : Int) (l : List Int) : Dn (s.eY i j l) A (n + 1) := by
  obtain ⟨h1, h2, h3⟩ := h
  have hlen := h2.len
  unfold aY.eY
  rw [if_pos h1]
  by_cases hE : iM s.c.L i j l = 0
  · have hb := QH hlen hE
    unfold aY.jZ
    split
    · rename_i h0
      have hd : jg s.c.L i j l = [] ∧ jh s.c.L i j l = [] := ⟨List.length_eq_zero_iff.1 (by dsimp only at h0; omega), List.length_eq_zero_iff.1 (by dsimp only at h0; omega)⟩
      have hLs : iR s.c.L i j l = s.c.L := by
        have hb2 : 0 ≤ i ∧ i ≤ j ∧ j ≤ s.c.L.length := by
          unfold iM at hE
          split at hE
          · simp at hE
          · omega
        obtain ⟨d1, d2⟩ := hd
        unfold jg at d1; unfold jh at d2
        rw [if_pos hE] at d1 d2
        have d3 := congrArg List.length d1
        simp at d3
        have hij : i = j := by omega
        subst hij d2
        unfold iR; rw [if_pos hE]; simp
      exact ⟨h1, by show UI (iR s.c.L i j l) s.here s.put A (n + 1); rw [hLs]; exact h2.more (by omega), h3.more (by omega)⟩
    · rw [if_neg (by show ¬ 16384 ≤ dX s.here s.put; have := h2.tot; omega)]
      refine ⟨h1, ⟨LP hlen, h2.ne, ?_, ?_⟩, h3.more (by omega)⟩
      · show bk (iR s.c.L i j l) (s.here.flatten ++ (s.put ++ [_])) = A
        rw [← List.append_assoc, VO]
        show bk (wE (iR s.c.L i j l) (mX s.c.L i j l) (jh s.c.L i j l) (jg s.c.L i j l)) _ = A
        rw [hb]; exact h2.bk
      · show dX s.here (s.put ++ [_]) ≤ n + 1
        rw [Oe]; have := h2.tot; omega
  · have hL : iR s.c.L i j l = s.c.L := by unfold iR; rw [if_neg hE]
    have hx : (jg s.c.L i j l).length + (jh s.c.L i j l).length = 0 := by unfold jg jh; rw [if_neg hE, if_neg hE]; rfl
    unfold aY.jZ
    rw [if_pos hx]
    exact ⟨h1, by show UI (iR s.c.L i j l) s.here s.put A (n + 1); rw [hL]; exact h2.more (by omega), h3.more (by omega)⟩
theorem Dn.copy (h : Dn s A n) (i j : Int) (b : Bool) : Dn (s.ng i j b) A n := by
  unfold aY.ng; split
  · exact h.same rfl rfl rfl rfl rfl
  · exact h
theorem yH (s : aY) (on : Bool) : (s.gV on).flatten = s.here.flatten ++ s.put := by
  unfold aY.gV
  split
  · rename_i h; rw [h, List.append_nil]
  · split
    · rcases List.eq_nil_or_concat s.here with hc | ⟨hs, g, hc⟩
      · rw [hc]; simp
      · rw [List.concat_eq_append] at hc; rw [hc]; simp
    · simp
theorem QI {s : aY} (on : Bool) (h : ∀ g ∈ s.here, g ≠ []) : ∀ g ∈ s.gV on, g ≠ [] := by
  unfold aY.gV
  split
  · exact h
  · rename_i hp
    split
    · rcases List.eq_nil_or_concat s.here with hc | ⟨hs, g, hc⟩
      · rw [hc]; simpa using hp
      · rw [List.concat_eq_append] at hc; rw [hc] at h ⊢
        simp only [List.getLast?_append, List.getLast?_singleton, Option.some_or, List.dropLast_concat]
        intro g' hg
        rcases List.mem_append.1 hg with hg | hg
        · exact h g' (List.mem_append.2 (.inl hg))
        · rw [List.mem_singleton.1 hg]; simp [hp]
    · intro g hg
      rcases List.mem_append.1 hg with hg | hg
      · exact h g hg
      · rw [List.mem_singleton.1 hg]; exact hp
theorem Ir (G : List (List eH)) (N : List eH) : dX G N = (G.flatten ++ N).length := by unfold dX; rw [List.length_append, List.length_flatten]
theorem UI.flush {s : aY} (h : UI L s.here s.put A n) (on : Bool) : UI L (s.gV on) [] A n := by
  refine ⟨h.len, QI on h.ne, by rw [List.append_nil, yH]; exact h.bk, ?_⟩
  rw [Ir, List.append_nil, yH, ← Ir]; exact h.tot
theorem LU (s : aY) (on : Bool) : (s.bG on).here = s.gV on ∧ (s.bG on).put = [] ∧ (s.bG on).c.L = s.c.L ∧ (s.bG on).was = s.was := by
  unfold aY.bG
  split
  · rename_i h
    refine ⟨?_, h, rfl, rfl⟩
    unfold aY.gV; rw [if_pos h]
  · exact ⟨eX _ _ _, rfl, rfl, rfl⟩
theorem UI.drop (h : UI L G [] A n) (hG : G ≠ []) : UI (Go.Proofs.YtgmpclifphbjkaaGreatDoor.bk L (G.getLastD [])) G.dropLast [] A n := by
  rcases List.eq_nil_or_concat G with hc | ⟨hs, g, hc⟩
  · exact absurd hc hG
  · rw [List.concat_eq_append] at hc; subst hc
    obtain ⟨h1, h2, h3, h4⟩ := h
    rw [show (hs ++ [g]).getLastD [] = g from by simp, List.dropLast_concat]
    refine ⟨X9 h1 _, fun g' hg => h2 g' (List.mem_append.2 (.inl hg)), ?_, ?_⟩
    · rw [List.append_nil] at h3 ⊢
      rw [← h3, List.flatten_append, QG]; simp
    · unfold dX at *; simp at *; omega
theorem Dn.VK (h : Dn s A n) : Dn s.kZ A n := by
  obtain ⟨h1, h2, h3⟩ := h
  obtain ⟨f1, f2, f3, f4⟩ := LU s false
  have hf : UI (s.bG false).c.L (s.bG false).here (s.bG false).put A n := by rw [f1, f2, f3]; exact h2.flush false
  unfold aY.kZ
  rw [if_pos h1]
  dsimp only
  split
  · exact ⟨(Fz s false).trans h1, hf, by rw [f4]; exact h3⟩
  · rename_i hG
    rw [f2] at hf
    refine ⟨(Fz s false).trans h1, ?_, by show UI (s.bG false).was.L _ [] A n; rw [show (((s.bG false).iY (s.bG false).here.dropLast).ES (((s.bG false).here.getLastD []).reverse.map rJ)).wO.was = s.was from f4, f4]; exact h3⟩
    have hd := hf.drop hG
    show UI (aY.apps ((s.bG false).c.L, (s.bG false).c.pt, (s.bG false).c.mark) (((s.bG false).here.getLastD []).reverse.map rJ)).1 (qY (s.bG false).c.un (s.bG false).c.place (s.bG false).here.dropLast (s.bG false).c.place) (s.bG false).put A n
    rw [LM, eX, f2]
    exact hd
theorem Dn.edit (h : Dn s A n) (hn : n < 16384) (p : zC) : Dn (s.edit p) A (n + 1) := by
  have hm : Dn s A (n + 1) := h.more (by omega)
  unfold aY.edit
  by_cases k0 : p.kd = 0
  · rw [if_pos k0]
    unfold aY.jM; rw [if_pos h.inn]; dsimp only
    by_cases hc : s.Bc p.text = 0 ∧ s.cls = 0
    · rw [if_pos hc]; exact (h.LQ hn _ _ _).same rfl rfl rfl rfl rfl
    · rw [if_neg hc]; exact h.LQ hn _ _ _
  rw [if_neg k0]
  by_cases k1 : p.kd = 1
  · rw [if_pos k1]
    exact h.LQ hn _ _ _
  rw [if_neg k1]
  by_cases k2 : p.kd = 2
  · rw [if_pos k2]
    exact h.LQ hn _ _ _
  rw [if_neg k2]
  by_cases k3 : p.kd = 3
  · rw [if_pos k3]
    exact h.LQ hn _ _ _
  rw [if_neg k3]
  by_cases k4 : p.kd = 4
  · rw [if_pos k4]
    unfold aY.rX
    by_cases hc : s.mZ p.a p.b p.back = 0
    · rw [if_pos hc]; exact (h.copy _ _ _).LQ hn _ _ _
    · rw [if_neg hc]; exact hm
  rw [if_neg k4]
  by_cases k5 : p.kd = 5
  · rw [if_pos k5]
    exact hm.copy _ _ _
  rw [if_neg k5]
  by_cases k6 : p.kd = 6
  · rw [if_pos k6]
    unfold aY.uo
    by_cases hc : s.EP = 0
    · rw [if_pos hc]; exact (h.LQ hn s.c.pt s.c.pt s.top).same rfl rfl rfl rfl rfl
    · rw [if_neg hc]; exact hm
  rw [if_neg k6]
  by_cases k7 : p.kd = 7
  · rw [if_pos k7]
    unfold aY.xJ
    by_cases hc : s.ER p.a = 0
    · rw [if_pos hc]; exact (h.LQ hn s.c.fr s.c.to (s.yA p.a)).same rfl rfl rfl rfl rfl
    · rw [if_neg hc]; exact hm
  rw [if_neg k7]
  by_cases k8 : p.kd = 8
  · rw [if_pos k8]
    unfold aY.vU; rw [if_pos h.inn]; exact hm.same rfl rfl rfl rfl rfl
  rw [if_neg k8]
  by_cases k9 : p.kd = 9
  · rw [if_pos k9]
    unfold aY.zo; rw [if_pos h.inn]; exact hm.same rfl rfl rfl rfl rfl
  rw [if_neg k9]
  by_cases k10 : p.kd = 10
  · rw [if_pos k10]
    unfold aY.zq; rw [if_pos h.inn]; exact hm.same rfl rfl rfl rfl rfl
  rw [if_neg k10]
  by_cases k11 : p.kd = 11
  · rw [if_pos k11]
    exact hm.VK
  rw [if_neg k11]
  by_cases k17 : p.kd = 17
  · rw [if_pos k17]
    unfold aY.yC
    by_cases hc : s.yB p.a = 0
    · rw [if_pos hc]; exact hm.same rfl rfl rfl rfl rfl
    · rw [if_neg hc]; exact hm
  rw [if_neg k17]
  exact hm
theorem Um (u : aY) (h : u.inn = true) : (u.iE 0).put = [] := by
  by_cases ha : u.argues = true <;> by_cases hp : u.put = [] <;> by_cases hc : u.cls = 2 <;> simp [aY.iE, aY.jR, aY.fV, aY.bG, aY.um, aY.iY, aY.gV, aY.here, eX, ha, hp, hc, h]
theorem Dn.end_ (h : Dn s A n) (err : Int) : Bz (s.iE err) A n := by
  by_cases he : err = 0
  · subst he
    refine ⟨yF _ h.inn, Um _ h.inn, ?_⟩
    have e1 : (s.iE 0).here = s.gV (s.typed && s.c.run) := DW s h.inn
    rw [Fv _ h.inn, e1]
    exact h.now.flush _
  · unfold aY.iE
    rw [if_pos h.inn, if_neg he]
    exact ⟨rfl, rfl, h.was⟩
structure Ya where
  parts : List zC
  err : Int
def aY.LV (s : aY) (p : zC) : aY := if p.kd ≠ 13 ∧ p.kd < 20 then s.edit p else s
def aY.acz (s : aY) (c : Ya) : aY := (c.parts.foldl aY.LV s.bF).iE c.err
theorem Dn.parts (l : List zC) : ∀ {s : aY} {n : Nat}, Dn s A n → n + l.length ≤ 16384 → Dn (l.foldl aY.LV s) A (n + l.length) := by
  induction l with
  | nil => intro s n h _; exact h
  | cons p l ih =>
    intro s n h hn
    rw [List.length_cons] at hn ⊢
    have h1 : Dn (s.LV p) A (n + 1) := by
      unfold aY.LV; split
      · exact h.edit (by omega) p
      · exact h.more (by omega)
    have := ih h1 (by omega)
    rwa [show n + 1 + l.length = n + (l.length + 1) from by omega] at this
def acA (cs : List Ya) : Nat := (cs.map fun c => c.parts.length).sum
def FC (s : aY) : aY := s.bF.kZ.iE 0
def Iu (s : aY) : Nat → aY
  | 0 => s
  | k + 1 => FC (Iu s k)
theorem Bz.Un (h : Bz s A n) : s.bF.here = s.here ∧ s.bF.put = [] := by
  have e : s.bF = { s with inn := true, was := s.c, cls := 0, killed := false, jy := false, argues := false, whole := true, put := [] } := by unfold aY.bF; rw [if_neg (by rw [h.inn]; decide)]
  rw [e]; exact ⟨rfl, rfl⟩
theorem Bz.aai (h : Bz s A n) (hG : s.here ≠ []) : Bz (FC s) A n ∧ s.bF.pW = 0 ∧ (FC s).here = s.here.dropLast := by
  have hb := h.begin
  obtain ⟨e1, e2⟩ := h.Un
  have hf : s.bF.bG false = s.bF := by unfold aY.bG; rw [if_pos e2]
  refine ⟨hb.VK.end_ 0, by unfold aY.pW; rw [if_pos hb.inn, hf, e1, if_neg hG], ?_⟩
  have hi := hb.VK.inn
  have e3 : (FC s).here = s.bF.kZ.gV (s.bF.kZ.typed && s.bF.kZ.c.run) := DW _ hi
  have e4 : s.bF.kZ = ((s.bF.iY s.here.dropLast).ES ((s.here.getLastD []).reverse.map rJ)).wO := by
    unfold aY.kZ; rw [if_pos hb.inn]; dsimp only; rw [hf, e1, if_neg hG]
  rw [e3, e4]
  unfold aY.gV
  rw [if_pos (by exact e2)]
  exact eX _ _ _
theorem Bz.Iu (h : Bz s A n) : ∀ k, k ≤ s.here.length → Bz (Iu s k) A n ∧ (Go.Proofs.YtgmpclifphbjkaaGreatDoor.Iu s k).here.length = s.here.length - k
  | 0, _ => ⟨h, rfl⟩
  | k + 1, hk => by
    obtain ⟨a, b⟩ := Bz.Iu h k (by omega)
    obtain ⟨c1, c2, c3⟩ := a.aai (fun c => by rw [c] at b; simp at b; omega)
    refine ⟨c1, ?_⟩
    show (FC (Go.Proofs.YtgmpclifphbjkaaGreatDoor.Iu s k)).here.length = _
    rw [c3, List.length_dropLast, b]; omega
theorem Bz.empty (h : Bz s A n) (hG : s.here = []) : s.bF.pW = 6 ∧ s.bF.kZ = s.bF ∧ s.bF.Zk = s.bF ∧ (s.bF.iE 0).c.L = A := by
  have hb := h.begin
  obtain ⟨e1, e2⟩ := h.Un
  have hf : s.bF.bG false = s.bF := by unfold aY.bG; rw [if_pos e2]
  refine ⟨by unfold aY.pW; rw [if_pos hb.inn, hf, e1, if_pos hG], by unfold aY.kZ; rw [if_pos hb.inn]; dsimp only; rw [hf, e1, if_pos hG], by unfold aY.Zk; rw [if_pos hb.inn]; dsimp only; rw [hf, e1, if_pos hG], ?_⟩
  have := h.now.bk
  rw [hG] at this
  rw [Fv _ hb.inn, sH]
  exact this
end
end Go.Proofs.YtgmpclifphbjkaaGreatDoor
end
section
namespace Go.Proofs.YtgmpclifphbjkaaGreatDoor
theorem QJ {r : Int} : iw r = true ↔ (0 ≤ r ∧ r < 55296 ∨ 57343 < r ∧ r ≤ 1114111) := by unfold iw; rw [decide_eq_true_eq]
theorem Uo {x : Int} (h0 : 0 ≤ x) : (iV x = 1 ∧ x < 128) ∨ (iV x = 2 ∧ 194 ≤ x ∧ x ≤ 223) ∨ (iV x = 3 ∧ 224 ≤ x ∧ x ≤ 239) ∨ (iV x = 4 ∧ 240 ≤ x ∧ x ≤ 244) ∨ iV x = 0 := by
  unfold iV
  by_cases h1 : x < 128
  · rw [if_pos h1]; omega
  · rw [if_neg h1]
    by_cases h2 : 194 ≤ x ∧ x ≤ 223
    · rw [if_pos h2]; omega
    · rw [if_neg h2]
      by_cases h3 : 224 ≤ x ∧ x ≤ 239
      · rw [if_pos h3]; omega
      · rw [if_neg h3]
        by_cases h4 : 240 ≤ x ∧ x ≤ 244
        · rw [if_pos h4]; omega
        · rw [if_neg h4]; omega
theorem rE {b : List Int} {k j : Nat} (h : qR b k = true) (hj : j < k) : vw b j = true := by
  have := Ef h (m := j + 1) (by omega)
  simp only [qR, Bool.and_eq_true] at this
  exact this.2
theorem sQ {b : List Int} {j : Nat} (h : vw b j = true) (hj : 0 < j) : 128 ≤ b.getD j 0 ∧ b.getD j 0 ≤ 191 := by
  unfold vw at h
  simp only [Bool.or_eq_true, Bool.and_eq_true, decide_eq_true_eq] at h
  rcases h with h | h
  · simp at h; omega
  · exact h.1
theorem LW {b : List Int} (h : vw b 1 = true) : FX (b.getD 0 0) ≤ b.getD 1 0 ∧ b.getD 1 0 ≤ yc (b.getD 0 0) := by
  unfold vw at h
  simp only [Bool.or_eq_true, Bool.and_eq_true, decide_eq_true_eq] at h
  rcases h with h | ⟨_, h | h⟩
  · simp at h
  · simp at h
  · exact h
theorem Og {b : List Int} (h : sZ b = true) : (kY b).2 = iV (b.getD 0 0) ∧ qR b (iV (b.getD 0 0)) = true := by
  have hn := zN h
  have h2 := BN hn.2.2.2
  refine ⟨h2, ?_⟩
  rw [h2] at hn
  unfold sZ at h; simp only [decide_eq_true_eq] at h
  rw [h2] at h
  have h1 := h.1
  unfold kY at h1
  rw [if_neg hn.2.2.2, if_neg (show ¬ iV (b.getD 0 0) = 0 by omega)] at h1
  by_cases hg : qR b (min (iV (b.getD 0 0)) b.length) = true
  · rwa [Nat.min_eq_left hn.2.1] at hg
  · rw [if_neg hg] at h1; simp only at h1; omega
theorem Oh {b : List Int} (hb : FY b) : iw (nJ b).1 = true := by
  by_cases hw : sZ b = true
  · obtain ⟨h1, h2⟩ := Og hw
    have hn := zN hw
    have y0 := BO hb 0
    unfold nJ
    rw [if_pos hw, h1]
    rw [h1] at hn
    rw [QJ]
    rcases Uo y0.1 with ⟨e, h⟩ | ⟨e, h⟩ | ⟨e, h⟩ | ⟨e, h⟩ | e
    · rw [e]; unfold PX; simp only [if_true]; omega
    · rw [e] at h2 ⊢
      have k1 := sQ (rE h2 (show 1 < 2 by decide)) (by decide)
      unfold PX; simp only [show ¬ (2 = 1) by decide, if_false, if_true]; omega
    · rw [e] at h2 ⊢
      have k1 := sQ (rE h2 (show 1 < 3 by decide)) (by decide)
      have k2 := sQ (rE h2 (show 2 < 3 by decide)) (by decide)
      have k3 := LW (rE h2 (show 1 < 3 by decide))
      have hhi : b.getD 0 0 = 237 → b.getD 1 0 ≤ 159 := fun q => by
        have := k3.2; unfold yc at this; rw [if_pos q] at this; exact this
      unfold PX; simp only [show ¬ (3 = 1) by decide, show ¬ (3 = 2) by decide, if_false, if_true]; omega
    · rw [e] at h2 ⊢
      have k1 := sQ (rE h2 (show 1 < 4 by decide)) (by decide)
      have k2 := sQ (rE h2 (show 2 < 4 by decide)) (by decide)
      have k4 := sQ (rE h2 (show 3 < 4 by decide)) (by decide)
      have k3 := LW (rE h2 (show 1 < 4 by decide))
      have hlo : b.getD 0 0 = 240 → 144 ≤ b.getD 1 0 := fun q => by
        have := k3.1; unfold FX at this; rw [if_neg (by omega), if_pos q] at this; exact this
      have hhi : b.getD 0 0 = 244 → b.getD 1 0 ≤ 143 := fun q => by
        have := k3.2; unfold yc at this; rw [if_neg (by omega), if_pos q] at this; exact this
      unfold PX; simp only [show ¬ (4 = 1) by decide, show ¬ (4 = 2) by decide, show ¬ (4 = 3) by decide, if_false]; omega
    · omega
  · rw [Ue (by simpa using hw)]; rfl
theorem Ju {b : List Int} (hb : FY b) : ∀ r ∈ uJ b, iw r = true := by
  induction hn : b.length using Nat.strongRecOn generalizing b with
  | _ n ih =>
    by_cases he : b = []
    · subst he; simp [Eh]
    · have h := AB he
      rw [CO he]
      intro r hr
      rcases List.mem_cons.1 hr with rfl | hr
      · exact Oh hb
      · exact ih (b.drop (nJ b).2).length (by simp; omega) (Ii hb _) rfl r hr
end Go.Proofs.YtgmpclifphbjkaaGreatDoor
end
section
namespace Go.Proofs.YtgmpclifphbjkaaGreatDoor
open Go.RowKit
def RE (e : eH) : Prop := dF e.2.1 ∧ dF e.2.2
def RG (G : List (List eH)) : Prop := ∀ g ∈ G, ∀ e ∈ g, RE e
structure RC (c : mD) : Prop where
  L : dF c.L
  E : ∀ x ∈ c.E, dF x
  un : ∀ k, RG (c.un k)
structure RS (s : aY) : Prop where
  c : RC s.c
  put : ∀ e ∈ s.put, RE e
  was : s.inn = true → RC s.was
structure Fr (s t : aY) : Prop where
  inn : t.inn = s.inn
  was : t.was = s.was
  hl : t.hl = s.hl
  iO : t.iO = s.iO
section
variable {s t u : aY} {L l : List Int}
theorem dF.nil : dF [] := fun x hx => absurd hx (by simp)
theorem dF.app (h : dF L) (g : dF l) : dF (L ++ l) := fun x hx => (List.mem_append.1 hx).elim (h x) (g x)
theorem dF.take (h : dF L) (n : Nat) : dF (L.take n) := fun x hx => h x (List.mem_of_mem_take hx)
theorem dF.drop (h : dF L) (n : Nat) : dF (L.drop n) := fun x hx => h x (List.mem_of_mem_drop hx)
theorem Ur {i j : Int} (h : dF L) (g : dF l) : dF (iR L i j l) := by
  unfold iR; split
  · exact ((h.take _).app g).app (h.drop _)
  · exact h
theorem VP {i j : Int} (h : dF L) : dF (jg L i j l) := by
  unfold jg; split
  · exact (h.drop _).take _
  · exact dF.nil
theorem VQ {i j : Int} (g : dF l) : dF (jh L i j l) := by
  unfold jh; split
  · exact g
  · exact dF.nil
theorem aaj {a : Int} {dl il : List Int} (h : dF L) (g : dF il) : dF (wE L a dl il) := by
  unfold wE; split
  · exact Ur h g
  · exact h
theorem abI {xs : List eH} (h : dF L) (g : ∀ e ∈ xs, RE e) : dF (bk L xs) := by
  unfold bk
  have g2 : ∀ e ∈ xs.reverse.map rJ, RE e := fun e he => by
    obtain ⟨x, hx, rfl⟩ := List.mem_map.1 he
    exact ⟨(g x (List.mem_reverse.1 hx)).2, (g x (List.mem_reverse.1 hx)).1⟩
  generalize xs.reverse.map rJ = l at g2
  induction l generalizing L with
  | nil => exact h
  | cons x l ih => exact ih (aaj h (g2 x List.mem_cons_self).2) fun e he => g2 e (List.mem_cons_of_mem _ he)
theorem Jv {E : List (List Int)} (h : ∀ x ∈ E, dF x) (n : Nat) : dF (E.getD n []) := by
  rw [List.getD_eq_getElem?_getD]
  by_cases hn : n < E.length
  · rw [List.getElem?_eq_getElem hn]; exact h _ (List.getElem_mem _)
  · rw [List.getElem?_eq_none (by omega)]; exact dF.nil
theorem Yb {E : List (List Int)} {p : Nat} {way : Int} (h : ∀ x ∈ E, dF x) (g : dF l) : ∀ x ∈ (vI E p way l).2.1, dF x := by
  unfold vI
  split
  · exact h
  · split
    · exact h
    · split
      · split
        · exact h
        · intro x hx
          rcases List.mem_cons.1 hx with rfl | hx
          · split
            · exact (Jv h 0).app g
            · exact g.app (Jv h 0)
          · exact h x (List.mem_of_mem_tail hx)
      · split
        · exact h
        · intro x hx
          rcases List.mem_cons.1 (List.mem_of_mem_take hx) with rfl | hx
          · exact g
          · exact h x hx
theorem Fr.refl (s : aY) : Fr s s := ⟨rfl, rfl, rfl, rfl⟩
theorem Fr.trans (h : Fr s t) (g : Fr t u) : Fr s u := ⟨g.inn.trans h.inn, g.was.trans h.was, g.hl.trans h.hl, g.iO.trans h.iO⟩
theorem Oi {U : Int → List (List eH)} {k : Int} {G : List (List eH)} (h : ∀ k, RG (U k)) (g : RG G) : ∀ x, RG (qY U k G x) := fun x => by
  unfold qY; split
  · exact g
  · exact h x
def Kept (s t : aY) : Prop := RS t ∧ Fr s t
theorem Yc (h : RS s) {x : eH} (hx : RE x) : Kept s (s.jZ x) := by
  unfold aY.jZ
  split
  · exact ⟨h, Fr.refl s⟩
  · split
    · exact ⟨⟨⟨h.c.L, h.c.E, Oi h.c.un (fun g hg => absurd hg (by simp))⟩, fun e he => by rw [List.mem_singleton.1 he]; exact hx, h.was⟩, ⟨rfl, rfl, rfl, rfl⟩⟩
    · exact ⟨⟨h.c, fun e he => (List.mem_append.1 he).elim (h.put e) (fun he => by rw [List.mem_singleton.1 he]; exact hx), h.was⟩, ⟨rfl, rfl, rfl, rfl⟩⟩
theorem Ah (h : RS s) (i j : Int) (g : dF l) : Kept s (s.eY i j l) := by
  unfold aY.eY
  split
  · have h1 : RS (s.jm (iR s.c.L i j l) (mW s.c.L s.c.pt i j l) (nK s.c.L s.c.mark i j l)) := ⟨⟨Ur h.c.L g, h.c.E, h.c.un⟩, h.put, h.was⟩
    obtain ⟨a, b⟩ := Yc h1 (x := (mX s.c.L i j l, jg s.c.L i j l, jh s.c.L i j l)) ⟨VP h.c.L, VQ g⟩
    exact ⟨a, ⟨b.inn, b.was, b.hl, b.iO⟩⟩
  · exact ⟨h, Fr.refl s⟩
theorem Us (h : RS s) (i j : Int) (b : Bool) : Kept s (s.ng i j b) := by
  unfold aY.ng
  split
  · exact ⟨⟨⟨h.c.L, Yb h.c.E ((h.c.L.drop _).take _), h.c.un⟩, h.put, h.was⟩, ⟨rfl, rfl, rfl, rfl⟩⟩
  · exact ⟨h, Fr.refl s⟩
theorem Jw (h : RS s) (on : Bool) : Kept s (s.bG on) := by
  unfold aY.bG
  split
  · exact ⟨h, Fr.refl s⟩
  · refine ⟨⟨⟨h.c.L, h.c.E, Oi h.c.un fun g hg e he => ?_⟩, fun e he => absurd he (by simp), h.was⟩, ⟨rfl, rfl, rfl, rfl⟩⟩
    have hf : e ∈ (s.gV on).flatten := List.mem_flatten.2 ⟨g, hg, he⟩
    rw [yH] at hf
    rcases List.mem_append.1 hf with hf | hf
    · obtain ⟨g', hg', he'⟩ := List.mem_flatten.1 hf
      exact h.c.un _ g' hg' e he'
    · exact h.put e hf
theorem Yd (h : RS s) : Kept s s.kZ := by
  unfold aY.kZ
  split
  · obtain ⟨a, b⟩ := Jw h false
    dsimp only
    split
    · exact ⟨a, b⟩
    · refine ⟨⟨⟨?_, a.c.E, Oi a.c.un fun g hg => a.c.un _ g (List.dropLast_subset _ hg)⟩, a.put, a.was⟩, ⟨b.inn, b.was, b.hl, b.iO⟩⟩
      show dF (aY.apps ((s.bG false).c.L, (s.bG false).c.pt, (s.bG false).c.mark) (((s.bG false).here.getLastD []).reverse.map rJ)).1
      rw [LM]
      refine abI a.c.L fun e he => ?_
      rename_i hne
      rcases List.eq_nil_or_concat (s.bG false).here with hc | ⟨hs, g, hc⟩
      · exact absurd hc hne
      · rw [List.concat_eq_append] at hc
        rw [hc] at he
        have : e ∈ g := by simpa using he
        exact a.c.un (s.bG false).c.place g (by show g ∈ (s.bG false).here; rw [hc]; simp) e this
  · exact ⟨h, Fr.refl s⟩
theorem Ye (s : aY) (k : Int) : dF (s.rO k) := by
  unfold aY.rO
  intro r hr
  have hv := Ju (y5 _) r hr
  unfold iw at hv
  simp at hv
  omega
theorem Yf (h : RS s) (k : Int) : Kept s (s.xE k) := by
  unfold aY.xE
  split
  · obtain ⟨a, b⟩ := Jw h false
    exact ⟨⟨⟨Ye s k, a.c.E, a.c.un⟩, a.put, a.was⟩, ⟨b.inn, b.was, b.hl, b.iO⟩⟩
  · exact ⟨h, Fr.refl s⟩
end
end Go.Proofs.YtgmpclifphbjkaaGreatDoor
end
section
namespace Go.Proofs.YtgmpclifphbjkaaGreatDoor
open Go.RowKit
section
variable {s t : aY} {p : zC}
theorem Yg (h : RS s) (g : dF p.text) : Kept s (s.edit p) := by
  have hs : Kept s s := ⟨h, Fr.refl s⟩
  unfold aY.edit
  by_cases k0 : p.kd = 0
  · rw [if_pos k0]
    unfold aY.jM
    split
    · dsimp only
      obtain ⟨a, b⟩ := Ah h s.c.pt (s.jf p.text) g
      split
      · exact ⟨⟨a.c, a.put, a.was⟩, ⟨b.inn, b.was, b.hl, b.iO⟩⟩
      · exact ⟨a, b⟩
    · exact hs
  rw [if_neg k0]
  by_cases k1 : p.kd = 1
  · rw [if_pos k1]; exact Ah h _ _ g
  rw [if_neg k1]
  by_cases k2 : p.kd = 2
  · rw [if_pos k2]; exact Ah h _ _ dF.nil
  rw [if_neg k2]
  by_cases k3 : p.kd = 3
  · rw [if_pos k3]; exact Ah h _ _ g
  rw [if_neg k3]
  by_cases k4 : p.kd = 4
  · rw [if_pos k4]
    unfold aY.rX
    split
    · obtain ⟨a, b⟩ := Us h p.a p.b p.back
      obtain ⟨c, d⟩ := Ah a p.a p.b dF.nil
      exact ⟨c, b.trans d⟩
    · exact hs
  rw [if_neg k4]
  by_cases k5 : p.kd = 5
  · rw [if_pos k5]; exact Us h _ _ _
  rw [if_neg k5]
  by_cases k6 : p.kd = 6
  · rw [if_pos k6]
    unfold aY.uo
    split
    · obtain ⟨a, b⟩ := Ah h s.c.pt s.c.pt (l := s.top) (Jv h.c.E _)
      exact ⟨⟨⟨a.c.L, a.c.E, a.c.un⟩, a.put, a.was⟩, ⟨b.inn, b.was, b.hl, b.iO⟩⟩
    · exact hs
  rw [if_neg k6]
  by_cases k7 : p.kd = 7
  · rw [if_pos k7]
    unfold aY.xJ
    split
    · obtain ⟨a, b⟩ := Ah h s.c.fr s.c.to (l := s.yA p.a) (Jv h.c.E _)
      exact ⟨⟨⟨a.c.L, h.c.E, a.c.un⟩, a.put, a.was⟩, ⟨b.inn, b.was, b.hl, b.iO⟩⟩
    · exact hs
  rw [if_neg k7]
  by_cases k8 : p.kd = 8
  · rw [if_pos k8]; unfold aY.vU; split
    · exact ⟨⟨⟨h.c.L, h.c.E, h.c.un⟩, h.put, h.was⟩, ⟨rfl, rfl, rfl, rfl⟩⟩
    · exact hs
  rw [if_neg k8]
  by_cases k9 : p.kd = 9
  · rw [if_pos k9]; unfold aY.zo; split
    · exact ⟨⟨⟨h.c.L, h.c.E, h.c.un⟩, h.put, h.was⟩, ⟨rfl, rfl, rfl, rfl⟩⟩
    · exact hs
  rw [if_neg k9]
  by_cases k10 : p.kd = 10
  · rw [if_pos k10]; unfold aY.zq; split
    · exact ⟨⟨⟨h.c.L, h.c.E, h.c.un⟩, h.put, h.was⟩, ⟨rfl, rfl, rfl, rfl⟩⟩
    · exact hs
  rw [if_neg k10]
  by_cases k11 : p.kd = 11
  · rw [if_pos k11]; exact Yd h
  rw [if_neg k11]
  by_cases k17 : p.kd = 17
  · rw [if_pos k17]; unfold aY.yC; split
    · exact ⟨⟨⟨h.c.L, h.c.E, h.c.un⟩, h.put, h.was⟩, ⟨rfl, rfl, rfl, rfl⟩⟩
    · exact hs
  rw [if_neg k17]
  exact hs
theorem Pm (h : RS s) (g : dF p.text) : Kept s (s.Dl p) := by
  unfold aY.Dl
  split
  · exact Yf h _
  · exact Yg h g
theorem BA (h : RS s) : RS s.bF := by
  unfold aY.bF
  split
  · exact h
  · exact ⟨⟨h.c.L, h.c.E, h.c.un⟩, fun e he => absurd he (by simp), fun _ => h.c⟩
theorem aak (h : RS s) (err : Int) : RS (s.iE err) := by
  unfold aY.iE
  split
  · rename_i hi
    split
    · have h1 : RS s.fV := by unfold aY.fV; split <;> exact ⟨⟨h.c.L, h.c.E, h.c.un⟩, h.put, fun hc => Bool.noConfusion hc⟩
      obtain ⟨a, b⟩ := Jw h1 (s.typed && s.c.run)
      unfold aY.jR
      dsimp only
      split <;> exact ⟨⟨a.c.L, a.c.E, a.c.un⟩, a.put, a.was⟩
    · have hw := h.was hi
      exact ⟨⟨hw.L, hw.E, hw.un⟩, fun e he => absurd he (by simp [aY.wM]), fun hc => Bool.noConfusion hc⟩
  · exact h
theorem aal (hl : List mM) (base most : Int) : RS (aY.new hl base most) := ⟨⟨dF.nil, fun x hx => absurd hx (by simp [aY.new, mD.fresh]), fun k g hg => absurd hg (by simp [aY.new, mD.fresh])⟩, fun e he => absurd he (by simp [aY.new]), fun h => Bool.noConfusion h⟩
theorem VR (hi : t.inn = true) (hw : t.was = s.c) (hh : t.hl = s.hl) (hb : t.iO = s.iO) {err : Int} (he : err ≠ 0) :
    (t.iE err).c = { s.c with last := 0, fr := 0, to := 0 } ∧ (t.iE err).hl = s.hl ∧ (t.iE err).iO = IntKind.i64.wrap (s.iO + 1) ∧ (t.iE err).given = false ∧ (t.iE err).inn = false ∧ t.zU err = err := by
  unfold aY.iE aY.zU
  rw [if_pos hi, if_neg he, if_pos hi]
  unfold aY.wM aY.um
  rw [← hw, ← hh, ← hb]
  exact ⟨rfl, rfl, rfl, rfl, rfl, rfl⟩
theorem FD (h : s.inn = false) : s.uT = s.here.length := by unfold aY.uT mF; rw [h]; simp
theorem Ut (h : s.inn = false) : s.bF.was = s.c ∧ s.bF.hl = s.hl ∧ s.bF.iO = s.iO := by unfold aY.bF; rw [if_neg (by rw [h]; decide)]; exact ⟨rfl, rfl, rfl⟩
end
end Go.Proofs.YtgmpclifphbjkaaGreatDoor
end
section
namespace Go.Proofs.YtgmpclifphbjkaaGreatDoor
open Go.RowKit
open _root_.Go.Proofs.Tryz
section
variable {L : List (Nat × Value)} {w : World} {x y : Operand} {ty : TypeId}
theorem Jy {c : Int × ByteArray} (hx : ev L x = some (.agg (ni c).toArray)) (hy : ev L y = some (.agg (ni c).toArray)) : Val prog L (.binOp .neq 130 x y 130) ty w (.bool false) w := fun ρ hρ _ _ _ _ => by
  simp only [execOp, hρ _ _ hx, hρ _ _ hy]
  have h0 : (eqGuard .neq 130 x y (.agg (ni c).toArray) (.agg (ni c).toArray)).run prog w = .ok () w := run_eqGuard_agg w .neq _ x y _ _ (by kernel_rfl)
  have hf : prog.underlying 130 = some (.struct (prog.fieldsOf 130)) := by kernel_rfl
  have hp : prog.stoodInHeld 130 = false := by kernel_rfl
  have hfs : ((prog.fieldsOf 130).toList.map fun f => (f.name, f.type, f.offset)) = [("At", 3, 0), ("Text", 9, 1)] := by kernel_rfl
  have h1 : (Op.eqFields 9999 (ni c).toArray (ni c).toArray (prog.fieldsOf 130).toList).run prog w = .ok true w := by
    generalize (prog.fieldsOf 130).toList = fs at hfs
    match fs, hfs with
    | [], hfs | [_], hfs | _ :: _ :: _ :: _, hfs => simp at hfs
    | [f1, f2], hfs =>
      simp only [List.map_cons, List.map_nil, List.cons.injEq, Prod.mk.injEq, and_true] at hfs
      obtain ⟨⟨n1, t1, o1⟩, n2, t2, o2⟩ := hfs
      have p1 : kK prog 9 = true := dM underlying9 rfl
      have p2 : kK prog 3 = true := dM underlying3 rfl
      have Pn : ∀ (e : TypeId) (xs : Array Value) (off : Nat) (v : Value), kK prog e = true → xs[off]? = some v → (part e xs off).run prog w = .ok v w := fun e xs off v h1 h2 => by simp [part, Aq h1, h2]
      have st : ∀ (f : Field) (e : TypeId) (off : Nat) (u v : Value) (r : Bool) (rest : List Field), f.name ≠ "_" → f.type = e → f.offset = off → kK prog e = true → (ni c).toArray[off]? = some u → (ni c).toArray[off]? = some v → (Op.equalIn 9999 e u v).run prog w = .ok r w →
          (Op.eqFields 9999 (ni c).toArray (ni c).toArray (f :: rest)).run prog w = if r then (Op.eqFields 9999 (ni c).toArray (ni c).toArray rest).run prog w else .ok false w := fun f e off u v r rest hn ht ho hp h1 h2 h3 => by
        subst ht ho
        rw [Op.eqFields, if_pos hn, Sem.run_bind, Pn _ _ _ _ hp h1, Result.andThen_ok, Sem.run_bind, Pn _ _ _ _ hp h2, Result.andThen_ok, Sem.run_bind, h3, Result.andThen_ok]
        cases r
        · simp
        · simp
      rw [st f1 _ _ _ _ _ _ (by rw [n1]; decide) t1 o1 p2 rfl rfl (run_equalIn_int w 9998 3 .i64 .i64 c.1 c.1 underlying3),
        st f2 _ _ _ _ _ _ (by rw [n2]; decide) t2 o2 p1 rfl rfl (run_equalIn_string w 9998 9 c.2 c.2 underlying9)]
      simp [Op.eqFields]
  have h2 := run_neq_struct (P := prog) w 130 (ni c).toArray (ni c).toArray
  rw [run_equalIn_agg w 9999 _ _ _ hf hp, h1] at h2
  simp [h0, h2]
end
end Go.Proofs.YtgmpclifphbjkaaGreatDoor
end
section
namespace Go.Proofs.YtgmpclifphbjkaaGreatDoor
open Go.RowKit
open _root_.Go.Proofs.Tryz
def FH (v : Value) (pt mk : Int) : Array Value := #[v, .int .i64 pt, .int .i64 mk]
def Uu (p : Nat) (L : List Int) (pt mk : Int) : HP := sS fun (v : Value) => fact (L.length ≤ 1024 ∧ (0 ≤ pt ∧ pt ≤ L.length) ∧ (-1 ≤ mk ∧ mk ≤ L.length)) • dA p (.cells (FH v pt mk) 195 (0, 0)) • iG 21 .i32 v L
section
variable {w0 w : World} {F : HP} {p : Nat} {L : List Int} {pt mk : Int} {v : Value} {l : List Int} {i j : Int}
theorem aB.Yh (h1 : L.length ≤ 1024) (h2 : 0 ≤ pt ∧ pt ≤ L.length) (h3 : -1 ≤ mk ∧ mk ≤ L.length) (H : aB w0 w (dA p (.cells (FH v pt mk) 195 (0, 0)) • iG 21 .i32 v L • F)) : aB w0 w (Uu p L pt mk • F) :=
  aB.iF v (aB.deep (aB.kJ ⟨h1, h2, h3⟩ (aB.deep H)))
theorem LX (H : aB w0 w F) (hr : iU w0 F .i32 v l) (hl : l.length ≤ 1024) : fQ prog 106 #[v] w fun v' w' => ∃ p, v' = .tuple #[.pointer (some ⟨p, 0, none⟩), .int .i64 0] ∧ aB w0 w' (Uu p l l.length (-1) • F) := by
 obtain ⟨a, c, rfl, hc1, hc2, _⟩ := (hr w H).open
 refine gX func106 ntmps106 ?_
 dsimp only [bg, Nat.reduceAdd]
 refine ay (ah (aV rfl (aV rfl (aA (aj (ay (ay (ah (aO rfl (aU (gK underlying22 rfl) (aU (dQ rfl rfl) (aA (aj (aH rfl (fun h => by exfalso; (try simp only [aG] at h); first | contradiction | omega | (simp at h <;> omega)) (fun h1 => ?_)))))))))))))))
 (try simp only [aG] at h1)
 refine aS (aj (ay (ah (aV rfl (aA (aj (ay (ah (aO rfl (aO rfl (iy (dS (l := []) (H.fZ none) (hr _ H) underlying22 yg rfl rfl (by simp only [List.length_nil]; omega) (by simp only [List.length_nil]; omega)) ?_)))))))))))
 rintro u w1 H1
 rw [List.nil_append] at H1
 obtain ⟨au, cu, hu, _⟩ := (H1.aT).form
 subst hu
 refine aV rfl (aA (aj (ay (ah (aO rfl (aO rfl (aU (gK underlying22 rfl) (aU (gq (pl := #[(0, 1), (1, 1), (2, 1)]) (FH (.slice au l.length cu) l.length (-1)) underlying195 zeroValue195 (fun w => by kernel_rfl) rfl (by kernel_rfl)) (iy (GI H1 rfl) ?_)))))))))
 rintro _ w2 ⟨b2, rfl, H2⟩
 refine aV rfl (aV rfl (aA (aj (aJ (fC (.inl rfl) results106 rfl rfl ?_)))))
 exact ⟨_, rfl, aB.Yh hl (by omega) (by omega) H2⟩
end
end Go.Proofs.YtgmpclifphbjkaaGreatDoor
end
section
namespace Go.Proofs.YtgmpclifphbjkaaGreatDoor
open Go.RowKit
open _root_.Go.Proofs.Tryz
section
variable {w0 w : World} {F : HP} {p : Nat} {L : List Int} {pt mk x : Int} {v : Value} {l : List Int}
theorem Gq {u u' : Value} (H : aB w0 w F) (g1 : iU w0 F .i32 u l) (g2 : iU w0 F .i32 u' l) : fQ prog 66 #[.agg (lS u pt mk), .agg (lS u' pt mk)] w fun v w' => v = .bool true ∧ aB w0 w' F := by
 refine gX func66 ntmps66 ?_
 dsimp only [bg, Nat.reduceAdd]
 refine ay (ah (iy (GI H rfl) ?_))
 rintro _ w1 ⟨b1, rfl, H1⟩
 refine iy (GI H1 rfl) ?_
 rintro _ w2 ⟨b2, rfl, H2⟩
 refine aV rfl (aA (aj (ay ?_)))
 have HB : aB w0 w2 (dA b2 (.cells (lS u' pt mk) 42 (0, 0)) • dA b1 (.cells (lS u pt mk) 42 (0, 0)) • F) := H2
 refine ah (aZ 0 underlying42 rfl sizeOf22 rfl (cO underlying22 rfl HB.swap.get.2 rfl (aZ 0 underlying42 rfl sizeOf22 rfl (cO underlying22 rfl HB.get.2 rfl (dw rfl func67 (J4 _ _ _ l (g1 _ HB.right.right) (g2 _ HB.right.right)) ?_)))))
 rintro _ w3 ⟨rfl, hD1⟩
 have HE1 := HB.nH hD1
 refine aO rfl (bD (aZ 1 underlying42 rfl sizeOf3 rfl (bD (cO underlying3 rfl HE1.swap.get.2 rfl (bD (aZ 1 underlying42 rfl sizeOf3 rfl (bD (cO underlying3 rfl HE1.get.2 rfl (bD ?_)))))))))
 refine aU (sJ (dW rfl rfl) (by first | (rw [decide_eq_true_eq]; omega) | (rw [decide_eq_false_iff_not]; omega) | (rw [beq_iff_eq]; omega) | (rw [beq_eq_false_iff_ne]; omega) | (rw [bne_iff_ne]; omega) | (rw [bne_eq_false_iff_eq]; omega) | (simp; done) | (simp; omega))) ?_
 refine jO rfl rfl (aO rfl (bD (aZ 2 underlying42 rfl sizeOf3 rfl (bD (cO underlying3 rfl HE1.swap.get.2 rfl (bD (aZ 2 underlying42 rfl sizeOf3 rfl (bD (cO underlying3 rfl HE1.get.2 rfl (bD ?_))))))))))
 refine aU (sJ (dW rfl rfl) (by first | (rw [decide_eq_true_eq]; omega) | (rw [decide_eq_false_iff_not]; omega) | (rw [beq_iff_eq]; omega) | (rw [beq_eq_false_iff_ne]; omega) | (rw [bne_iff_ne]; omega) | (rw [bne_eq_false_iff_eq]; omega) | (simp; done) | (simp; omega))) ?_
 refine jO rfl rfl (aV rfl (aA (aj (aJ (aP (.inl rfl) results66 rfl ?_)))))
 exact ⟨rfl, HE1.right.right⟩
end
end Go.Proofs.YtgmpclifphbjkaaGreatDoor
end
