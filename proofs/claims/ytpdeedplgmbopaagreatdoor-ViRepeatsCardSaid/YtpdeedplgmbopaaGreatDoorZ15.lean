import Derived.Test.YtpdeedplgmbopaaGreatDoorZ4
import Derived.Test.YtpdeedplgmbopaaGreatDoorZ14
import Derived.Laws.IdiomStrings
import Derived.Test.YtpdeedplgmbopaaGreatDoorZ12
import Derived.Test.YtpdeedplgmbopaaGreatDoorZ11
import Derived.Test.YtpdeedplgmbopaaGreatDoorZ13
import Derived.Test.YtpdeedplgmbopaaGreatDoorZ9
import Derived.Test.YtpdeedplgmbopaaGreatDoorZ5
import Derived.Test.YtpdeedplgmbopaaGreatDoorZ2
set_option linter.unusedSimpArgs false
set_option linter.unusedVariables false
/- Texts of mine, joined, their names in short: Utf5 StrB EdG EdGo EEditG ETyM ETyM2 EdSt EKillM EUndoM UBackM EdR32 MapI VW VW2. -/
section
namespace Go.Proofs.YtpdeedplgmbopaaGreatDoor
open Go.RowKit
def uJ (l : List Int) : Prop := ∀ x ∈ l, -2147483648 ≤ x ∧ x < 2147483648
section
variable {w0 w : World} {F : HP} {v : Value} {b l : List Int} {r x y : Int}
end
def ahf (l : List Int) : ByteArray := l.foldl (fun s n => s.push (UInt8.ofNat n.toNat)) .empty
def abo (s : ByteArray) : List Int := s.data.toList.map fun b => (b.toNat : Int)
section
variable {P : Program} {L : List (Nat × Value)} {w0 w : World} {F : HP} {ty : TypeId} {x : Operand}
end
def afl (hl : List tu) (tx : Int → Option ByteArray) (place : Int) (L : List Int) : ByteArray := if abm (abo (kJ hl tx place)) = L then kJ hl tx place else ahf (afj L)
section
variable {w0 w : World} {F : HP} {e pb pw pt ph : Nat} {L : List Int} {pnt mk place base most : Int} {tx : Int → Option ByteArray} {hl : List tu}
end
namespace bF
variable (s : bF)
def aep : ByteArray := afl s.hl s.c.tx s.c.place s.c.L
def WJ (k : Int) : List Int := abm (abo (if k = s.c.place then s.aep else s.stands k))
def ahg (k : Int) : Int := if s.inn then (if k < 0 ∨ s.hl.length < k then 6 else if 1024 < (s.WJ k).length then 6 else 0) else 1
def ahh (k : Int) : bF :=
  if s.ahg k = 0 then
    let t := s.dQ false
    { t with whole := false, c := { t.c with tx := xk t.c.tx t.c.place (some t.aep), place := k, L := s.WJ k, pt := (s.WJ k).length, mark := -1, run := false } }
  else s
end bF
section
variable {w0 w : World} {F : HP} {e : Nat} {s : bF} {k : Int}
end
def bF.ajy (s : bF) (p : Ip) : bF := if p.kd = 13 then s.ahh p.a else s.edit p
section
variable {w0 w : World} {F : HP} {e : Nat} {s : bF} {v : Value} {p : Ip}
end
structure Out (s : bF) (L : List Int) (pt : Int) (G : List (List jl)) (run : Bool) : Prop where
  inn : s.inn = false
  L : s.c.L = L
  pt : s.c.pt = pt
  G : s.c.un s.c.place = G
  run : s.c.run = run
  over : s.c.over = false
structure Inn (s : bF) (L : List Int) (pt : Int) (G : List (List jl)) (run : Bool) : Prop where
  inn : s.inn = true
  L : s.c.L = L
  pt : s.c.pt = pt
  G : s.c.un s.c.place = G
  run : s.c.run = run
  over : s.c.over = false
  put : s.put = []
  cls : s.cls = 0
  whole : s.whole = true
section
variable {s : bF} {L : List Int} {pt : Int} {G : List (List jl)} {run : Bool} {r : Int}
theorem Out.begin (h : Out s L pt G run) : Inn s.bH L pt G run ∧ s.Dp = 0 := by
  unfold bF.bH bF.Dp
  rw [if_neg (by rw [h.inn]; decide), if_neg (by rw [h.inn]; decide)]
  exact ⟨⟨rfl, h.L, h.pt, h.G, h.run, h.over, rfl, rfl, rfl⟩, rfl⟩
def Uo (G : List (List jl)) (run : Bool) (x : jl) : List (List jl) := if run then (match G.getLast? with | some g => G.dropLast ++ [g ++ [x]] | none => [[x]]) else G ++ [[x]]
theorem Inn.aeq (h : Inn s L pt G run) (h1 : 0 ≤ pt ∧ pt ≤ L.length) (h2 : L.length < 1024) (h3 : ig G [] < 16384) :
    s.XW [r] = 0 ∧ s.DK [r] = { (s.nZ (L.take pt.toNat ++ [r] ++ L.drop pt.toNat) (pt + 1) (wY L s.c.mark pt pt [r])) with put := [(pt, [], [r])], cls := 3 } := by
  have hto : s.Jh [r] = pt := by unfold bF.Jh; rw [h.over]; exact h.pt
  have hE : mF L pt pt [r] = 0 := by unfold mF; rw [if_neg (by omega), if_neg (by simp; omega)]
  have hE' : s.rF s.c.pt (s.Jh [r]) [r] = 0 := by unfold bF.rF; rw [if_pos h.inn, hto, h.pt, h.L]; exact hE
  have hP : uy L pt pt pt [r] = pt + 1 := by unfold uy gJ; rw [if_pos hE, if_neg (by omega), if_pos (by omega)]; rfl
  have hD : nR L pt pt [r] = [] := by unfold nR; rw [if_pos hE]; simp
  have hI : nS L pt pt [r] = [r] := by unfold nS; rw [if_pos hE]
  have hA : uz L pt pt [r] = pt := by unfold uz; rw [if_pos hE]
  have hL : mV L pt pt [r] = L.take pt.toNat ++ [r] ++ L.drop pt.toNat := by unfold mV; rw [if_pos hE]
  have hS : s.mG s.c.pt (s.Jh [r]) [r] = { (s.nZ (L.take pt.toNat ++ [r] ++ L.drop pt.toNat) (pt + 1) (wY L s.c.mark pt pt [r])) with put := [(pt, [], [r])] } := by
    unfold bF.mG
    rw [if_pos h.inn, hto, h.pt, h.L, hP, hD, hI, hA, hL]
    unfold bF.qR
    rw [if_neg (by simp), if_neg (by
      show ¬ 16384 ≤ ig (s.c.un s.c.place) s.put
      rw [h.G, h.put]; omega)]
    show _ = _
    unfold bF.nZ
    simp only [h.put, List.nil_append]
  refine ⟨hE', ?_⟩
  unfold bF.DK
  rw [if_pos h.inn]
  dsimp only
  rw [if_pos ⟨hE', h.cls⟩, hS]
theorem GN (u : bF) (h : u.inn = true) : (u.lD 0).c.L = u.c.L := by by_cases ha : u.argues = true <;> by_cases hp : u.put = [] <;> by_cases hc : u.cls = 2 <;> simp [bF.lD, bF.kU, bF.jT, bF.dQ, bF.tC, bF.lY, bF.iO, bF.here, iL, ha, hp, hc, h]
theorem Lc (u : bF) (h : u.inn = true) : (u.lD 0).c.pt = u.c.pt := by by_cases ha : u.argues = true <;> by_cases hp : u.put = [] <;> by_cases hc : u.cls = 2 <;> simp [bF.lD, bF.kU, bF.jT, bF.dQ, bF.tC, bF.lY, bF.iO, bF.here, iL, ha, hp, hc, h]
theorem Zj (u : bF) (h : u.inn = true) : (u.lD 0).c.mark = u.c.mark := by by_cases ha : u.argues = true <;> by_cases hp : u.put = [] <;> by_cases hc : u.cls = 2 <;> simp [bF.lD, bF.kU, bF.jT, bF.dQ, bF.tC, bF.lY, bF.iO, bF.here, iL, ha, hp, hc, h]
theorem afm (u : bF) (h : u.inn = true) : (u.lD 0).c.E = u.c.E := by by_cases ha : u.argues = true <;> by_cases hp : u.put = [] <;> by_cases hc : u.cls = 2 <;> simp [bF.lD, bF.kU, bF.jT, bF.dQ, bF.tC, bF.lY, bF.iO, bF.here, iL, ha, hp, hc, h]
theorem ac8 (u : bF) (h : u.inn = true) : (u.lD 0).c.at_ = u.c.at_ := by by_cases ha : u.argues = true <;> by_cases hp : u.put = [] <;> by_cases hc : u.cls = 2 <;> simp [bF.lD, bF.kU, bF.jT, bF.dQ, bF.tC, bF.lY, bF.iO, bF.here, iL, ha, hp, hc, h]
theorem P6 (u : bF) (h : u.inn = true) : (u.lD 0).c.over = u.c.over := by by_cases ha : u.argues = true <;> by_cases hp : u.put = [] <;> by_cases hc : u.cls = 2 <;> simp [bF.lD, bF.kU, bF.jT, bF.dQ, bF.tC, bF.lY, bF.iO, bF.here, iL, ha, hp, hc, h]
theorem EH (u : bF) (h : u.inn = true) : (u.lD 0).inn = false := by by_cases ha : u.argues = true <;> by_cases hp : u.put = [] <;> by_cases hc : u.cls = 2 <;> simp [bF.lD, bF.kU, bF.jT, bF.dQ, bF.tC, bF.lY, bF.iO, bF.here, iL, ha, hp, hc, h]
theorem Zk (u : bF) (h : u.inn = true) : (u.lD 0).c.last = u.cls := by by_cases ha : u.argues = true <;> by_cases hp : u.put = [] <;> by_cases hc : u.cls = 2 <;> simp [bF.lD, bF.kU, bF.jT, bF.dQ, bF.tC, bF.lY, bF.iO, bF.here, iL, ha, hp, hc, h]
theorem Ur (u : bF) (h : u.inn = true) : (u.lD 0).c.run = (u.typed && (!u.put.isEmpty || u.c.run)) := by by_cases ha : u.argues = true <;> by_cases hp : u.put = [] <;> by_cases hc : u.cls = 2 <;> simp [bF.lD, bF.kU, bF.jT, bF.dQ, bF.tC, bF.lY, bF.iO, bF.here, iL, ha, hp, hc, h]
theorem Ld (u : bF) (h : u.inn = true) : (u.lD 0).c.un (u.lD 0).c.place = u.iO (u.typed && u.c.run) := by by_cases ha : u.argues = true <;> by_cases hp : u.put = [] <;> by_cases hc : u.cls = 2 <;> simp [bF.lD, bF.kU, bF.jT, bF.dQ, bF.tC, bF.lY, bF.iO, bF.here, iL, ha, hp, hc, h]
theorem Inn.typed (h : Inn s L pt G run) (h1 : 0 ≤ pt ∧ pt ≤ L.length) (h2 : L.length < 1024) (h3 : ig G [] < 16384) :
    Out ((s.DK [r]).lD 0) (L.take pt.toNat ++ [r] ++ L.drop pt.toNat) (pt + 1) (Uo G run (pt, [], [r])) true ∧ (s.DK [r]).Cj 0 = 0 := by
  obtain ⟨_, e⟩ := h.aeq (r := r) h1 h2 h3
  have hu : (s.DK [r]).inn = true := by rw [e]; exact h.inn
  have hT : (s.DK [r]).typed = true := by rw [e]; show (((3 : Int) == 3) && s.whole) = true; rw [h.whole]; rfl
  have hp : (s.DK [r]).put = [(pt, [], [r])] := by rw [e]
  have hr : (s.DK [r]).c.run = run := by rw [e]; exact h.run
  have hh : (s.DK [r]).here = G := by rw [e]; exact h.G
  refine ⟨⟨EH _ hu, (GN _ hu).trans (by rw [e]; rfl), (Lc _ hu).trans (by rw [e]; rfl), ?_, ?_, (P6 _ hu).trans (by rw [e]; exact h.over)⟩, by unfold bF.Cj; rw [if_pos hu]⟩
  · rw [Ld _ hu, hT, hr, Bool.true_and]
    unfold bF.iO Uo
    rw [if_neg (by rw [hp]; simp), hp, hh] <;> rfl
  · rw [Ur _ hu, hT, hp]; rfl
def P7 (s : bF) (r : Int) : bF := (s.bH.DK [r]).lD (s.bH.XW [r])
theorem Out.P7 (h : Out s L pt G run) (h1 : 0 ≤ pt ∧ pt ≤ L.length) (h2 : L.length < 1024) (h3 : ig G [] < 16384) :
    Out (P7 s r) (L.take pt.toNat ++ [r] ++ L.drop pt.toNat) (pt + 1) (Uo G run (pt, [], [r])) true := by
  unfold Go.Proofs.YtpdeedplgmbopaaGreatDoor.P7
  rw [(h.begin.1.aeq (r := r) h1 h2 h3).1]
  exact (h.begin.1.typed h1 h2 h3).1
theorem P8 (hi : s.inn = true) (hL : s.c.L = L) (hpt : s.c.pt = pt) (hG : s.here = G) (ho : s.c.over = false) (hp : s.put = []) (hc : s.cls = 0) : Out (s.lD 0) L pt G false := by
  have hT : s.typed = false := by unfold bF.typed; rw [hc]; rfl
  refine ⟨EH _ hi, (GN _ hi).trans hL, (Lc _ hi).trans hpt, ?_, ?_, (P6 _ hi).trans ho⟩
  · rw [Ld _ hi]; unfold bF.iO; rw [if_pos hp]; exact hG
  · rw [Ur _ hi, hT]; rfl
theorem Inn.end_ (h : Inn s L pt G run) : Out (s.lD 0) L pt G false := P8 h.inn h.L h.pt h.G h.over h.put h.cls
theorem Out.move (h : Out s L pt G run) (x : Int) (hx : 0 ≤ x ∧ x ≤ L.length) : Out ((s.bH.uF x).lD 0) L x G false := by
  have hb := h.begin.1
  refine Inn.end_ (s := s.bH.uF x) (run := run) ?_
  unfold bF.uF
  rw [if_pos hb.inn]
  refine ⟨hb.inn, hb.L, ?_, hb.G, hb.run, hb.over, hb.put, hb.cls, hb.whole⟩
  show mvP s.bH.c.L.length s.bH.c.pt x = x
  unfold mvP
  rw [if_pos (by rw [hb.L]; omega)]
end
def Vs (p : Int) : List Int → List jl
  | [] => []
  | r :: l => (p, [], [r]) :: Vs (p + 1) l
theorem abp (p : Int) (l : List Int) (r : Int) : Vs p (l ++ [r]) = Vs p l ++ [(p + l.length, [], [r])] := by
  induction l generalizing p with
  | nil => simp [Vs]
  | cons x l ih => simp only [List.cons_append, Vs, ih, List.length_cons]; rw [show p + 1 + (l.length : Int) = p + ((l.length + 1 : Nat) : Int) from by omega]
theorem ac9 (p : Int) (l : List Int) : (Vs p l).length = l.length := by induction l generalizing p with
  | nil => rfl
  | cons x l ih => simp [Vs, ih]
def EI (G : List (List jl)) (p : Int) (l : List Int) : List (List jl) := if l = [] then G else G ++ [Vs p l]
theorem Zl (G : List (List jl)) (p : Int) (l : List Int) : ig (EI G p l) [] = ig G [] + l.length := by
  unfold EI ig; split
  · rename_i h; subst h; simp
  · simp [ac9]
theorem WM (G : List (List jl)) (p : Int) (l : List Int) (r : Int) : Uo (EI G p l) (!l.isEmpty) (p + l.length, [], [r]) = EI G p (l ++ [r]) := by
  unfold Uo EI
  rw [if_neg (show l ++ [r] ≠ [] by simp)]
  cases l with
  | nil => simp [Vs]
  | cons x l => rw [if_neg (show ¬ x :: l = [] by simp)]; simp only [List.isEmpty_cons, Bool.not_false, if_true, List.getLast?_append, List.getLast?_singleton, Option.some_or, List.dropLast_concat, abp]
theorem AB (s : bF) : s.bH.inn = true := by unfold bF.bH; split; assumption; rfl
theorem Nj (s : bF) (b : Bool) : (s.dQ b).inn = s.inn := by unfold bF.dQ; split <;> rfl
section
variable {s : bF} {L : List Int} {pt : Int} {G : List (List jl)} {run : Bool} {r : Int}
def Nk (s : bF) (l : List Int) : bF := l.foldl P7 s
theorem Out.Nk (h : Out s L pt G false) (h1 : 0 ≤ pt ∧ pt ≤ L.length) (l : List Int) (h2 : L.length + l.length ≤ 1024) (h3 : ig G [] + l.length ≤ 16384) :
    Out (Nk s l) (L.take pt.toNat ++ l ++ L.drop pt.toNat) (pt + l.length) (EI G pt l) (!l.isEmpty) := by
  suffices hh : ∀ n (l : List Int), l.length = n → L.length + n ≤ 1024 → ig G [] + n ≤ 16384 → Out (Go.Proofs.YtpdeedplgmbopaaGreatDoor.Nk s l) (L.take pt.toNat ++ l ++ L.drop pt.toNat) (pt + l.length) (EI G pt l) (!l.isEmpty) from hh _ l rfl h2 h3
  intro n
  induction n with
  | zero =>
    intro l hn _ _
    obtain rfl := List.length_eq_zero_iff.1 hn
    simpa [EI, Go.Proofs.YtpdeedplgmbopaaGreatDoor.Nk] using h
  | succ n ih =>
    intro l hn h2 h3
    rcases List.eq_nil_or_concat l with rfl | ⟨l, r, rfl⟩
    · cases hn
    rw [List.concat_eq_append] at hn ⊢
    have hn2 : l.length = n := by simpa using hn
    have h4 := ih l hn2 (by omega) (by omega)
    have hl : (L.take pt.toNat ++ l ++ L.drop pt.toNat).length = L.length + l.length := by simp; omega
    have h5 := h4.P7 (r := r) (by rw [hl]; omega) (by rw [hl]; omega) (by rw [Zl]; omega)
    have e1 : (L.take pt.toNat ++ l ++ L.drop pt.toNat).take (pt + l.length).toNat = L.take pt.toNat ++ l := by
      rw [List.take_append_of_le_length (by simp; omega), List.take_of_length_le (by simp; omega)]
    have e2 : (L.take pt.toNat ++ l ++ L.drop pt.toNat).drop (pt + l.length).toNat = L.drop pt.toNat := by
      rw [List.drop_append_of_le_length (by simp; omega), List.drop_of_length_le (by simp; omega), List.nil_append]
    rw [e1, e2, WM] at h5
    have e3 : Go.Proofs.YtpdeedplgmbopaaGreatDoor.Nk s (l ++ [r]) = Go.Proofs.YtpdeedplgmbopaaGreatDoor.P7 (Go.Proofs.YtpdeedplgmbopaaGreatDoor.Nk s l) r := by unfold Go.Proofs.YtpdeedplgmbopaaGreatDoor.Nk; rw [List.foldl_append]; rfl
    rw [e3]
    rw [show pt + ((l ++ [r]).length : Int) = pt + l.length + 1 from by simp; omega, show (!(l ++ [r]).isEmpty) = true from by simp, ← List.append_assoc]
    exact h5
theorem abq (A B : List Int) (p m : Int) (r : Int) (h : A.length + B.length ≤ 1024) : ∃ p' m', bF.agH (A ++ r :: B, p, m) ((A.length : Int), [r], []) = (A ++ B, p', m') := by
  refine ⟨_, _, Prod.ext ?_ rfl⟩
  show LW (A ++ r :: B) (A.length : Int) [r] [] = A ++ B
  have hr : mF (A ++ r :: B) (A.length : Int) (A.length + ([r].length : Int)) [] = 0 := by
    unfold mF; rw [if_neg (by simp; omega), if_neg (by simp; omega)]
  have hf : Ti (A ++ r :: B) (A.length : Int) [r] = true := by
    unfold Ti; simp; omega
  have he : VN (A ++ r :: B) (A.length : Int) [r] [] = 0 := by unfold VN; rw [if_neg (by simp; omega), hf]; exact hr
  unfold LW mV
  rw [if_pos he, if_pos hr]
  rw [show (A.length + ([r].length : Int)).toNat = A.length + 1 from by simp, show (A.length : Int).toNat = A.length from by omega]
  rw [List.take_left, show A.length + 1 = (A ++ [r]).length from by simp, show A ++ r :: B = (A ++ [r]) ++ B from by simp, List.drop_left]
  simp
theorem abr (l : List Int) (A B : List Int) (p m : Int) (h : A.length + l.length + B.length ≤ 1024) : ∃ p' m', bF.apps (A ++ l ++ B, p, m) ((Vs (A.length : Int) l).reverse.map DX) = (A ++ B, p', m') := by
  induction l generalizing A p m with
  | nil => exact ⟨p, m, by simp [Vs, bF.apps]⟩
  | cons r l ih =>
    rw [List.length_cons] at h
    obtain ⟨p1, m1, e1⟩ := ih (A ++ [r]) p m (by simp; omega)
    rw [List.length_append, List.length_singleton] at e1
    have e2 : A ++ r :: l ++ B = A ++ [r] ++ l ++ B := by simp
    show ∃ p' m', bF.apps (A ++ r :: l ++ B, p, m) (((((A.length : Int), [], [r]) :: Vs ((A.length : Int) + 1) l).reverse).map DX) = _
    rw [List.reverse_cons, List.map_append, e2]
    unfold bF.apps at e1 ⊢
    rw [List.foldl_append]
    rw [show ((A.length + 1 : Nat) : Int) = (A.length : Int) + 1 from by omega] at e1
    rw [e1, List.append_assoc, List.singleton_append]
    exact abq A B p1 m1 r (by omega)
theorem Out.ada {A B l : List Int} (h : Out s (A ++ l ++ B) pt (EI G A.length l) run) (hl : l ≠ []) (hn : A.length + l.length + B.length ≤ 1024) :
    s.bH.Ib = 0 ∧ ∃ pt', Out (s.bH.Bl.lD 0) (A ++ B) pt' G false := by
  have hb := h.begin.1
  have hw : EI G A.length l = G ++ [Vs A.length l] := by unfold EI; rw [if_neg hl]
  have hf : s.bH.dQ false = s.bH := by unfold bF.dQ; rw [if_pos hb.put]
  have hh : s.bH.here = G ++ [Vs A.length l] := hb.G.trans hw
  obtain ⟨p', m', e⟩ := abr l A B pt s.bH.c.mark hn
  refine ⟨by unfold bF.Ib; rw [if_pos hb.inn, hf, hh, if_neg (by simp)], p', ?_⟩
  have eU : s.bH.Bl = ((s.bH.lY G).nZ (A ++ B) p' m').Ie := by
    unfold bF.Bl
    rw [if_pos hb.inn]
    dsimp only
    rw [hf, if_neg (by rw [hh]; simp), hh, List.dropLast_concat]
    rw [show (G ++ [Vs (A.length : Int) l]).getLastD [] = Vs A.length l from by simp]
    unfold bF.TK
    rw [show ((s.bH.lY G).c.L, (s.bH.lY G).c.pt, (s.bH.lY G).c.mark) = (A ++ l ++ B, pt, s.bH.c.mark) from by rw [← hb.L, ← hb.pt]; rfl, e]
  rw [eU]
  exact P8 hb.inn rfl rfl (iL _ _ _) hb.over hb.put hb.cls
end
end Go.Proofs.YtpdeedplgmbopaaGreatDoor
end
section
namespace Go.Proofs.YtpdeedplgmbopaaGreatDoor
open Go.RowKit
open _root_.Go.Proofs.Tryz
def bF.vH (s : bF) (l : List Int) : Int := if s.inn then 1 else if 1024 < l.length then 3 else 0
def bF.yY (s : bF) (hl : List tu) (base most : Int) (l : List Int) : bF := if s.vH l = 0 then s.start hl base most l else s
theorem Us {s : bF} (h : nT s) (hi : s.inn = false) (hl : List tu) (base most : Int) (l : List Int) : nT (s.start hl base most l) := by
  obtain ⟨h1, h2, h3, h4, h5, h6⟩ := h
  refine ⟨Uc _ _ _ _ _, fun h => absurd (show s.inn = true from h) (by rw [hi]; decide), ⟨by show (-1 : Int) ≤ -1; decide, by show (-1 : Int) ≤ 1000000; decide⟩, h4, ?_, by simp [bF.start, oQ.fresh]⟩
  show ig [] s.put ≤ 16384
  unfold ig at *; simp at *; omega
section
variable {w0 w : World} {F : HP} {e p h pr : Nat} {s : bF} {hl : List tu} {base most m : Int} {v : Value} {l : List Int}
theorem Rw (H : V w0 w (eH e s • jC h hl base most • F)) (hr : jh w0 F .i32 v l) : iQ prog 59 #[.pointer (some ⟨e, 0, none⟩), .pointer (some ⟨h, 0, none⟩), v] w fun v' w' =>
  v' = .int .i64 (s.vH l) ∧ V w0 w' (eH e (s.yY hl base most l) • jC h hl base most • F) := by
 unfold bF.yY
 refine zk func59 ntmps59 ?_
 refine ku O (aI (bf (bM O (dS O func65 (tJ H) ?_))))
 rintro _ _ ⟨rfl, rfl⟩
 refine bJ O (aY (bJ O (aY (dS O func109 (xg H.f2) ?_))))
 rintro _ w2 ⟨q2, rfl, H2⟩
 refine aY (aQ (iJ lM O O) (fG O O (dZ O (Oh O (fun h1 => ?_)))))
 (try simp only [Z] at h1)
 refine aI ?_
 have P9 := H2.right
 obtain ⟨zB, zC, zD, zF, zG, zH, zI, zJ, xM, wu, wz, wB, wC, wE, wF, wG, wH, wI, wJ, wK, iZ, dL, lU, jo⟩ := (P9.f2).JV
 refine aB (oq O O (bI 16 aj O aS O (fC cZ O (jo).get.2 O (dZ O (aZ O (fun h2 => ?_) (fun h2 => ?_))))))
 ·(try simp only [Z] at h2)
  have hin := h2
  have hE : s.vH l = 1 := by unfold bF.vH; rw [if_pos hin]
  refine kC O (aU (aA (dI results59 O ?_)))
  have Ho6 := jo.f11.f11.f11.f11.f11.f11.f11.f11.f11.f11.f11
  have Hc7 := V.jg (s := s) iZ dL Ho6
  exact ⟨by rw [hE], by rw [if_neg (by rw [hE]; decide)]; exact Hc7.f2.f2⟩
 ·(try simp only [Z] at h2)
  have hin : s.inn = false := by simpa using h2
  refine bM O (aQ (iT (hr _ (jo.right.right.right.right.right.right.right.right.right.right.right.right)) ah O) (aQ (eX O O) (dZ O (aZ O (fun h3 => ?_) (fun h3 => ?_)))))
  ·(try simp only [Z] at h3)
   have hbig := h3
   have hE : s.vH l = 3 := by unfold bF.vH; rw [if_neg (by simp [hin]), if_pos (by omega)]
   refine kC O (aU (aA (dI results59 O ?_)))
   have Ho9 := jo.f11.f11.f11.f11.f11.f11.f11.f11.f11.f11.f11
   have afn := V.jg (s := s) iZ dL Ho9
   exact ⟨by rw [hE], by rw [if_neg (by rw [hE]; decide)]; exact afn.f2.f2⟩
  ·(try simp only [Z] at h3)
   have hE : s.vH l = 0 := by unfold bF.vH; rw [if_neg (by simp [hin]), if_neg (by have h9 := h3; omega)]
   have hsh : l.length ≤ 1024 := by have h9 := h3; omega
   refine dh (aH (aX (bM O (jX O O (dS O func111 (Gf (E := s.c.E) (a := s.c.at_) jo.f2.right.f3.right.f3.right.f3.right.f3.right.f6.f6.f6.f6.f6.f7.f7 (fun W HW => hr W HW.right.right.right.right.right) hsh) ?_)))))
   rintro _ FM ⟨qb, qw, qt, qm, qh, rY⟩
   refine iE (kC O (dI results59 O ?_))
   exact ⟨by rw [hE], by rw [if_pos hE]; exact V.jg (s := s.start hl base most l) (Us iZ hin _ _ _ _) dL rY.f7.f12.f12.f12.f12.f11.f11.f11.f11.f12.f12.f12⟩
end
end Go.Proofs.YtpdeedplgmbopaaGreatDoor
end
section
namespace Go.Proofs.YtpdeedplgmbopaaGreatDoor
open Go.RowKit
section
variable {s : bF}
theorem adb (s : bF) (x : jl) : (s.qR x).c.L = s.c.L ∧ (s.qR x).c.pt = s.c.pt ∧ (s.qR x).c.mark = s.c.mark ∧ (s.qR x).c.E = s.c.E ∧ (s.qR x).c.at_ = s.c.at_ ∧ (s.qR x).inn = s.inn ∧ (s.qR x).cls = s.cls ∧ (s.qR x).was = s.was := by
  unfold bF.qR
  split
  · simp
  · split <;> simp [bF.lY]
theorem Yi (h : s.inn = true) (i j : Int) (l : List Int) : (s.mG i j l).c.L = mV s.c.L i j l ∧ (s.mG i j l).c.pt = uy s.c.L s.c.pt i j l ∧ (s.mG i j l).c.mark = wY s.c.L s.c.mark i j l ∧ (s.mG i j l).c.E = s.c.E ∧ (s.mG i j l).c.at_ = s.c.at_ ∧ (s.mG i j l).inn = true ∧ (s.mG i j l).cls = s.cls ∧ (s.mG i j l).was = s.was := by
  unfold bF.mG
  rw [if_pos h]
  obtain ⟨h1, h2, h3, h4, h5, h6, h7, h8⟩ := adb (s.nZ (mV s.c.L i j l) (uy s.c.L s.c.pt i j l) (wY s.c.L s.c.mark i j l)) (uz s.c.L i j l, nR s.c.L i j l, nS s.c.L i j l)
  exact ⟨h1, h2, h3, h4, h5, h6.trans h, h7, h8⟩
theorem afo (h : s.inn = true) {i j : Int} {back : Bool} (hi : 0 ≤ i ∧ i ≤ j ∧ j ≤ s.c.L.length) (hL : s.c.L.length ≤ 1024) (hk : (s.uS i j back).1 = 0) (hp : i ≤ s.c.pt ∧ s.c.pt ≤ j) :
    (s.xu i j back).c.L = s.c.L.take i.toNat ++ s.c.L.drop j.toNat ∧ (s.xu i j back).c.pt = i ∧ (s.xu i j back).c.E = (s.uS i j back).2.1 ∧ (s.xu i j back).c.at_ = (s.uS i j back).2.2 ∧ (s.xu i j back).inn = true ∧ (s.xu i j back).cls = 1 := by
  have hc : s.uD i j back = 0 := by
    unfold bF.uD
    rw [if_pos h, if_neg (by unfold bF.sK; omega), hk]
  have hE : mF s.c.L i j [] = 0 := by unfold mF; rw [if_neg (by omega), if_neg (by simp; omega)]
  unfold bF.xu
  rw [if_pos hc]
  have e : s.tH i j back = { s.KY (s.uS i j back).2.1 (s.uS i j back).2.2 with killed := true, cls := 1 } := by unfold bF.tH; rw [if_pos hc]
  have ei : (s.tH i j back).inn = true := by rw [e]; exact h
  obtain ⟨h1, h2, h3, h4, h5, h6, h7, h8⟩ := Yi ei i j []
  refine ⟨h1.trans ?_, h2.trans ?_, h4.trans (by rw [e]; rfl), h5.trans (by rw [e]; rfl), h6, h7.trans (by rw [e])⟩
  · rw [show (s.tH i j back).c.L = s.c.L from by rw [e]; rfl]
    unfold mV
    rw [if_pos hE]; simp
  · rw [show (s.tH i j back).c.L = s.c.L from by rw [e]; rfl, show (s.tH i j back).c.pt = s.c.pt from by rw [e]; rfl]
    unfold uy gJ
    rw [if_pos hE]
    simp only [List.length_nil]
    split <;> (try split) <;> omega
end
structure Nl (s : bF) (A : List Int) (a b : Int) : Prop where
  inn : s.inn = false
  ok : 0 ≤ a ∧ a ≤ b ∧ b ≤ A.length
  L : s.c.L = A.take a.toNat ++ A.drop b.toNat
  pt : s.c.pt = a
  ring : (s.c.E = [] ∧ a = b) ∨ (s.c.E = [(A.drop a.toNat).take (b.toNat - a.toNat)] ∧ s.c.at_ = 0 ∧ s.c.last = 1)
section
variable {s : bF} {A : List Int} {a b k : Int}
theorem Nl.len (h : Nl s A a b) : (s.c.L.length : Int) = A.length - (b - a) := by
  have := h.ok
  rw [h.L]; simp; omega
theorem qj (s : bF) : s.bH.c = s.c := by unfold bF.bH; split <;> rfl
theorem WO (h : Nl s A a b) (hA : A.length ≤ 1024) {i j : Int} {back : Bool} {l : List Int} (hcut : s.bH.cut i j = l) (hl : l.length + (b - a) ≤ A.length) :
    (s.bH.uS i j back).1 = 0 ∧ ((s.bH.uS i j back).2.1 = [] ∧ l = [] ∧ a = b ∨ (s.bH.uS i j back).2.1 = [if back then l ++ (A.drop a.toNat).take (b.toNat - a.toNat) else (A.drop a.toNat).take (b.toNat - a.toNat) ++ l] ∧ (s.bH.uS i j back).2.2 = 0) := by
  have ho := h.ok
  have hb : s.bH.killed = false := by unfold bF.bH; rw [if_neg (by rw [h.inn]; decide)]
  unfold bF.uS
  rw [hcut, qj]
  rcases h.ring with ⟨h1, h2⟩ | ⟨h1, h2, h3⟩
  · rw [h1]
    have hx : (A.drop a.toNat).take (b.toNat - a.toNat) = [] := by rw [h2]; simp
    have hw : s.bH.way back = 0 ∨ s.bH.way back = 1 ∨ s.bH.way back = 2 := by unfold bF.way; split <;> (try split) <;> simp
    unfold Ei
    rw [if_neg (by omega), if_neg (by omega), if_neg (by simp)]
    split
    · rename_i h4
      exact ⟨rfl, .inl ⟨rfl, List.length_eq_zero_iff.1 h4.2, h2⟩⟩
    · rw [hx]
      exact ⟨rfl, .inr ⟨by cases back <;> simp, rfl⟩⟩
  · rw [h1, h2]
    have hw : s.bH.way back = if back then 2 else 1 := by unfold bF.way; rw [if_pos (by rw [qj]; exact .inl h3)]
    have hlen : ((A.drop a.toNat).take (b.toNat - a.toNat)).length = b.toNat - a.toNat := by simp; omega
    rw [hw]
    unfold Ei
    rw [if_neg (by cases back <;> simp), if_neg (by omega), if_pos (by cases back <;> simp), if_neg (by simp only [List.getD_cons_zero]; omega)]
    exact ⟨rfl, .inr ⟨by cases back <;> simp, rfl⟩⟩
theorem Nl.step (h : Nl s A a b) (hA : A.length ≤ 1024) {i j a' b' : Int} {back : Bool} {l : List Int} (hij : 0 ≤ i ∧ i ≤ j ∧ j ≤ s.c.L.length) (hp : i ≤ a ∧ a ≤ j) (hcut : s.bH.cut i j = l) (hl : l.length + (b - a) ≤ A.length)
    (ho : 0 ≤ a' ∧ a' ≤ b' ∧ b' ≤ A.length) (hi : i = a') (hL : s.c.L.take i.toNat ++ s.c.L.drop j.toNat = A.take a'.toNat ++ A.drop b'.toNat) (he : l = [] → a = b → a' = b')
    (hx : (if back then l ++ (A.drop a.toNat).take (b.toNat - a.toNat) else (A.drop a.toNat).take (b.toNat - a.toNat) ++ l) = (A.drop a'.toNat).take (b'.toNat - a'.toNat)) :
    Nl ((s.bH.xu i j back).lD 0) A a' b' := by
  obtain ⟨h1, h2⟩ := WO h hA (back := back) hcut hl
  have hlen := h.len
  have hok := h.ok
  obtain ⟨k1, k2, k3, k4, k5, k6⟩ := afo (s := s.bH) (AB s) (i := i) (j := j) (back := back) (by rw [qj]; exact hij) (by rw [qj]; omega) h1 (by rw [qj, h.pt]; exact hp)
  rw [qj] at k1
  refine ⟨EH _ k5, ho, (GN _ k5).trans (k1.trans hL), (Lc _ k5).trans (k2.trans hi), ?_⟩
  rw [afm _ k5, ac8 _ k5, Zk _ k5, k3, k4, k6]
  rcases h2 with ⟨q1, q2, q3⟩ | ⟨q1, q2⟩
  · exact .inl ⟨q1, he q2 q3⟩
  · exact .inr ⟨by rw [q1, hx], q2, rfl⟩
theorem Nl.back (h : Nl s A a b) (hA : A.length ≤ 1024) (hk : 0 ≤ k ∧ k ≤ a) : Nl ((s.bH.xu (s.bH.c.pt - k) s.bH.c.pt true).lD 0) A (a - k) b := by
  have hlen := h.len
  have hok := h.ok
  rw [qj, h.pt]
  have e1 : s.bH.cut (a - k) a = (A.drop (a - k).toNat).take k.toNat := by
    unfold bF.cut
    rw [qj, h.L, List.drop_append_of_le_length (by simp; omega), List.take_append_of_le_length (by simp; omega), List.drop_take]
    rw [List.take_take]; congr 1; omega
  refine h.step hA (l := (A.drop (a - k).toNat).take k.toNat) (by omega) (by omega) e1 (by simp; omega) (by omega) rfl ?_ ?_ ?_
  · rw [h.L, List.take_append_of_le_length (by simp; omega), List.take_take, List.drop_append, List.drop_of_length_le (by simp; omega), List.nil_append]
    rw [show min (a - k).toNat a.toNat = (a - k).toNat from by omega, show a.toNat - (A.take a.toNat).length = 0 from by simp; omega, List.drop_zero]
  · intro h1 h2
    have h3 := congrArg List.length h1
    simp at h3; omega
  · simp only [if_true]
    rw [show (A.drop a.toNat).take (b.toNat - a.toNat) = ((A.drop (a - k).toNat).drop k.toNat).take (b.toNat - a.toNat) from by rw [List.drop_drop]; congr 2; omega, show b.toNat - (a - k).toNat = k.toNat + (b.toNat - a.toNat) from by omega, List.take_add]
theorem Nl.Ut (h : Nl s A a b) (hA : A.length ≤ 1024) : (a = b → ((s.bH.xP).lD s.bH.Cm).c.L.length = A.length) ∧
    (a ≠ b → s.bH.Cm = 0 ∧ ((s.bH.xP).lD s.bH.Cm).c.L = A ∧ ((s.bH.xP).lD s.bH.Cm).c.mark = a ∧ ((s.bH.xP).lD s.bH.Cm).c.pt = b) := by
  have hlen := h.len
  have hok := h.ok
  have hi := AB s
  rcases h.ring with ⟨h1, h2⟩ | ⟨h1, h2, h3⟩
  · have hy : s.bH.Cm = 6 := by unfold bF.Cm; rw [if_pos hi, qj, h1]; rfl
    refine ⟨fun _ => ?_, fun c => absurd h2 c⟩
    have e1 : s.bH.xP = s.bH := by unfold bF.xP; rw [if_neg (by rw [hy]; decide)]
    rw [e1, hy]
    have e2 : (s.bH.lD 6).c.L = s.c.L := by
      unfold bF.lD; rw [if_pos hi, if_neg (by decide)]
      unfold bF.bH bF.Au; rw [if_neg (by rw [h.inn]; decide)]
    rw [e2]; omega
  · have htop : s.bH.top = (A.drop a.toNat).take (b.toNat - a.toNat) := by unfold bF.top; rw [qj, h1, h2]; rfl
    have htl : s.bH.top.length = b.toNat - a.toNat := by rw [htop]; simp; omega
    have hE : mF s.c.L a a s.bH.top = 0 := by unfold mF; rw [if_neg (by omega), if_neg (by omega)]
    have hy : s.bH.Cm = 0 := by
      unfold bF.Cm bF.agE bF.rF
      rw [if_pos hi, if_neg (by rw [qj, h1]; simp), if_pos hi, qj, h.pt, hE]
    have hta : (A.take a.toNat).length = a.toNat := by simp; omega
    have e0 : s.c.L.drop a.toNat = A.drop b.toNat := by rw [h.L]; exact List.drop_left' hta
    have e9 : s.c.L.take a.toNat = A.take a.toNat := by rw [h.L]; exact List.take_left' hta
    obtain ⟨r1, r2, r3, r4, r5, r6, r7, r8⟩ := Yi hi s.bH.c.pt s.bH.c.pt s.bH.top
    rw [qj, h.pt] at r1 r2
    have hI : s.bH.OE s.bH.top = s.bH.mG s.bH.c.pt s.bH.c.pt s.bH.top := rfl
    rw [qj, h.pt] at hI
    have hL2 : mV s.c.L a a s.bH.top = A := by
      unfold mV; rw [if_pos hE, e0, e9, htop]
      rw [show A.drop b.toNat = (A.drop a.toNat).drop (b.toNat - a.toNat) from by rw [List.drop_drop]; congr 1; omega, List.append_assoc, List.take_append_drop, List.take_append_drop]
    have hP2 : uy s.c.L a a a s.bH.top = b := by
      unfold uy gJ; rw [if_pos hE]
      split <;> (try split) <;> omega
    have eY : s.bH.xP = (let t := s.bH.OE s.bH.top; { t with lT := true, cls := 2, c := { t.c with mark := smM t.c.L t.c.mark s.bH.c.pt, fr := s.bH.c.pt, to := s.bH.c.pt + s.bH.top.length } }) := by
      unfold bF.xP; rw [if_pos hy]
    have gL : s.bH.xP.c.L = A := by rw [eY]; show (s.bH.OE s.bH.top).c.L = A; rw [hI, qj, h.pt] at *; exact r1.trans hL2
    have gP : s.bH.xP.c.pt = b := by rw [eY]; show (s.bH.OE s.bH.top).c.pt = b; rw [hI]; exact r2.trans hP2
    have gI : s.bH.xP.inn = true := by rw [eY]; show (s.bH.OE s.bH.top).inn = true; exact r6
    have gM : s.bH.xP.c.mark = a := by
      have gL' : (s.bH.OE s.bH.top).c.L = A := by have := gL; rw [eY] at this; exact this
      rw [eY]
      show smM (s.bH.OE s.bH.top).c.L (s.bH.OE s.bH.top).c.mark s.bH.c.pt = a
      rw [gL', qj, h.pt]
      unfold smM; rw [if_neg (by omega)]
    rw [hy]
    refine ⟨fun _ => by rw [GN _ gI, gL], fun _ => ⟨rfl, (GN _ gI).trans gL, (Zj _ gI).trans gM, (Lc _ gI).trans gP⟩⟩
end
def bk (L : List Int) (xs : List jl) : List Int := (xs.reverse.map DX).foldl (fun L x => LW L x.1 x.2.1 x.2.2) L
theorem ade (L : List Int) (xs : List jl) (x : jl) : bk L (xs ++ [x]) = bk (LW L x.1 x.2.2 x.2.1) xs := by
  unfold bk; rw [List.reverse_append]; rfl
theorem Zm (L : List Int) (xs ys : List jl) : bk L (xs ++ ys) = bk (bk L ys) xs := by
  unfold bk; rw [List.reverse_append, List.map_append, List.foldl_append]
theorem abt (L : List Int) (p m : Int) (l : List jl) : (bF.apps (L, p, m) l).1 = l.foldl (fun L x => LW L x.1 x.2.1 x.2.2) L := by
  unfold bF.apps
  induction l generalizing L p m with
  | nil => rfl
  | cons x l ih => exact ih _ _ _
theorem Uu {L : List Int} {i j : Int} {l : List Int} (h : L.length ≤ 1024) : (mV L i j l).length ≤ 1024 := by
  unfold mV; split
  · rename_i hE
    unfold mF at hE
    split at hE
    · simp at hE
    · split at hE
      · simp at hE
      · simp; omega
  · exact h
theorem abu {L : List Int} {a : Int} {dl il : List Int} (h : L.length ≤ 1024) : (LW L a dl il).length ≤ 1024 := by
  unfold LW; split
  · exact Uu h
  · exact h
theorem afp {L : List Int} (h : L.length ≤ 1024) (xs : List jl) : (bk L xs).length ≤ 1024 := by
  unfold bk
  generalize xs.reverse.map DX = l
  induction l generalizing L with
  | nil => exact h
  | cons x l ih => exact ih (abu h)
theorem Zn {L : List Int} {i j : Int} {l : List Int} (h : L.length ≤ 1024) (hE : mF L i j l = 0) : LW (mV L i j l) (uz L i j l) (nS L i j l) (nR L i j l) = L := by
  have hb : 0 ≤ i ∧ i ≤ j ∧ j ≤ L.length := by
    unfold mF at hE
    split at hE
    · simp at hE
    · omega
  unfold mV uz nS nR
  rw [if_pos hE, if_pos hE, if_pos hE, if_pos hE]
  have hta : (L.take i.toNat).length = i.toNat := by simp; omega
  have hdl : ((L.drop i.toNat).take (j - i).toNat).length = (j - i).toNat := by simp; omega
  have e1 : (L.take i.toNat ++ l ++ L.drop j.toNat).drop i.toNat = l ++ L.drop j.toNat := by rw [List.append_assoc]; exact List.drop_left' hta
  have hf : Ti (L.take i.toNat ++ l ++ L.drop j.toNat) i l = true := by
    unfold Ti; rw [e1, List.take_left]; simp; omega
  have hr : mF (L.take i.toNat ++ l ++ L.drop j.toNat) i (i + l.length) ((L.drop i.toNat).take (j - i).toNat) = 0 := by
    unfold mF; rw [if_neg (by simp; omega), if_neg (by simp; omega)]
  have ha : VN (L.take i.toNat ++ l ++ L.drop j.toNat) i l ((L.drop i.toNat).take (j - i).toNat) = 0 := by
    unfold VN; rw [if_neg (by simp; omega), hf]; exact hr
  unfold LW
  rw [if_pos ha]
  unfold mV
  rw [if_pos hr, show (i + (l.length : Int)).toNat = i.toNat + l.length from by omega, ← List.drop_drop, e1, List.drop_left]
  rw [List.append_assoc, List.append_assoc, List.take_left' hta]
  rw [show L.drop j.toNat = (L.drop i.toNat).drop (j - i).toNat from by rw [List.drop_drop]; congr 1; omega, List.take_append_drop, List.take_append_drop]
structure UI (L : List Int) (G : List (List jl)) (N : List jl) (A : List Int) (n : Nat) : Prop where
  len : L.length ≤ 1024
  ne : ∀ g ∈ G, g ≠ []
  bk : bk L (G.flatten ++ N) = A
  tot : ig G N ≤ n
structure J5 (s : bF) (A : List Int) (n : Nat) : Prop where
  inn : s.inn = true
  now : UI s.c.L s.here s.put A n
  was : UI s.was.L (s.was.un s.was.place) [] A n
structure Iu (s : bF) (A : List Int) (n : Nat) : Prop where
  inn : s.inn = false
  put : s.put = []
  now : UI s.c.L s.here [] A n
section
variable {s t : bF} {A L : List Int} {n m : Nat} {G : List (List jl)} {N : List jl}
theorem UI.more (h : UI L G N A n) (hm : n ≤ m) : UI L G N A m := ⟨h.len, h.ne, h.bk, Nat.le_trans h.tot hm⟩
theorem J5.more (h : J5 s A n) (hm : n ≤ m) : J5 s A m := ⟨h.inn, h.now.more hm, h.was.more hm⟩
theorem J5.same (h : J5 s A n) (h1 : t.inn = s.inn) (h2 : t.c.L = s.c.L) (h3 : t.here = s.here) (h4 : t.put = s.put) (h5 : t.was = s.was) : J5 t A n := ⟨h1.trans h.inn, by rw [h2, h3, h4]; exact h.now, by rw [h5]; exact h.was⟩
theorem Iu.begin (h : Iu s A n) : J5 s.bH A n := by
  have e : s.bH = { s with inn := true, was := s.c, cls := 0, killed := false, lT := false, argues := false, whole := true, put := [] } := by unfold bF.bH; rw [if_neg (by rw [h.inn]; decide)]
  rw [e]
  exact ⟨rfl, h.now, h.now⟩
theorem WR (G : List (List jl)) (N : List jl) (x : jl) : ig G (N ++ [x]) = ig G N + 1 := by unfold ig; simp; omega
theorem J5.Uw (h : J5 s A n) (hn : n < 16384) (i j : Int) (l : List Int) : J5 (s.mG i j l) A (n + 1) := by
  obtain ⟨h1, h2, h3⟩ := h
  have hlen := h2.len
  unfold bF.mG
  rw [if_pos h1]
  by_cases hE : mF s.c.L i j l = 0
  · have hb := Zn hlen hE
    unfold bF.qR
    split
    · rename_i h0
      have hd : nR s.c.L i j l = [] ∧ nS s.c.L i j l = [] := ⟨List.length_eq_zero_iff.1 (by dsimp only at h0; omega), List.length_eq_zero_iff.1 (by dsimp only at h0; omega)⟩
      have hLs : mV s.c.L i j l = s.c.L := by
        have hb2 : 0 ≤ i ∧ i ≤ j ∧ j ≤ s.c.L.length := by
          unfold mF at hE
          split at hE
          · simp at hE
          · omega
        obtain ⟨d1, d2⟩ := hd
        unfold nR at d1; unfold nS at d2
        rw [if_pos hE] at d1 d2
        have d3 := congrArg List.length d1
        simp at d3
        have hij : i = j := by omega
        subst hij d2
        unfold mV; rw [if_pos hE]; simp
      exact ⟨h1, by show UI (mV s.c.L i j l) s.here s.put A (n + 1); rw [hLs]; exact h2.more (by omega), h3.more (by omega)⟩
    · rw [if_neg (by show ¬ 16384 ≤ ig s.here s.put; have := h2.tot; omega)]
      refine ⟨h1, ⟨Uu hlen, h2.ne, ?_, ?_⟩, h3.more (by omega)⟩
      · show bk (mV s.c.L i j l) (s.here.flatten ++ (s.put ++ [_])) = A
        rw [← List.append_assoc, ade]
        show bk (LW (mV s.c.L i j l) (uz s.c.L i j l) (nS s.c.L i j l) (nR s.c.L i j l)) _ = A
        rw [hb]; exact h2.bk
      · show ig s.here (s.put ++ [_]) ≤ n + 1
        rw [WR]; have := h2.tot; omega
  · have hL : mV s.c.L i j l = s.c.L := by unfold mV; rw [if_neg hE]
    have hx : (nR s.c.L i j l).length + (nS s.c.L i j l).length = 0 := by unfold nR nS; rw [if_neg hE, if_neg hE]; rfl
    unfold bF.qR
    rw [if_pos hx]
    exact ⟨h1, by show UI (mV s.c.L i j l) s.here s.put A (n + 1); rw [hL]; exact h2.more (by omega), h3.more (by omega)⟩
theorem J5.copy (h : J5 s A n) (i j : Int) (b : Bool) : J5 (s.tH i j b) A n := by
  unfold bF.tH; split
  · exact h.same rfl rfl rfl rfl rfl
  · exact h
theorem J6 (s : bF) (on : Bool) : (s.iO on).flatten = s.here.flatten ++ s.put := by
  unfold bF.iO
  split
  · rename_i h; rw [h, List.append_nil]
  · split
    · rcases List.eq_nil_or_concat s.here with hc | ⟨hs, g, hc⟩
      · rw [hc]; simp
      · rw [List.concat_eq_append] at hc; rw [hc]; simp
    · simp
theorem Zo {s : bF} (on : Bool) (h : ∀ g ∈ s.here, g ≠ []) : ∀ g ∈ s.iO on, g ≠ [] := by
  unfold bF.iO
  split
  · exact h
  · rename_i hp
    split
    · rcases List.eq_nil_or_concat s.here with hc | ⟨hs, g, hc⟩
      · rw [hc]; simpa using hp
      · rw [List.concat_eq_append] at hc; rw [hc] at h ⊢
        simp only [List.getLast?_append, List.getLast?_singleton, Option.some_or, List.dropLast_concat]
        intro g' hg
        rcases List.mem_append.1 hg with hg | hg
        · exact h g' (List.mem_append.2 (.inl hg))
        · rw [List.mem_singleton.1 hg]; simp [hp]
    · intro g hg
      rcases List.mem_append.1 hg with hg | hg
      · exact h g hg
      · rw [List.mem_singleton.1 hg]; exact hp
theorem Qa (G : List (List jl)) (N : List jl) : ig G N = (G.flatten ++ N).length := by unfold ig; rw [List.length_append, List.length_flatten]
theorem UI.flush {s : bF} (h : UI L s.here s.put A n) (on : Bool) : UI L (s.iO on) [] A n := by
  refine ⟨h.len, Zo on h.ne, by rw [List.append_nil, J6]; exact h.bk, ?_⟩
  rw [Qa, List.append_nil, J6, ← Qa]; exact h.tot
theorem Ux (s : bF) (on : Bool) : (s.dQ on).here = s.iO on ∧ (s.dQ on).put = [] ∧ (s.dQ on).c.L = s.c.L ∧ (s.dQ on).was = s.was := by
  unfold bF.dQ
  split
  · rename_i h
    refine ⟨?_, h, rfl, rfl⟩
    unfold bF.iO; rw [if_pos h]
  · exact ⟨iL _ _ _, rfl, rfl, rfl⟩
theorem UI.drop (h : UI L G [] A n) (hG : G ≠ []) : UI (Go.Proofs.YtpdeedplgmbopaaGreatDoor.bk L (G.getLastD [])) G.dropLast [] A n := by
  rcases List.eq_nil_or_concat G with hc | ⟨hs, g, hc⟩
  · exact absurd hc hG
  · rw [List.concat_eq_append] at hc; subst hc
    obtain ⟨h1, h2, h3, h4⟩ := h
    rw [show (hs ++ [g]).getLastD [] = g from by simp, List.dropLast_concat]
    refine ⟨afp h1 _, fun g' hg => h2 g' (List.mem_append.2 (.inl hg)), ?_, ?_⟩
    · rw [List.append_nil] at h3 ⊢
      rw [← h3, List.flatten_append, Zm]; simp
    · unfold ig at *; simp at *; omega
theorem J5.ada (h : J5 s A n) : J5 s.Bl A n := by
  obtain ⟨h1, h2, h3⟩ := h
  obtain ⟨f1, f2, f3, f4⟩ := Ux s false
  have hf : UI (s.dQ false).c.L (s.dQ false).here (s.dQ false).put A n := by rw [f1, f2, f3]; exact h2.flush false
  unfold bF.Bl
  rw [if_pos h1]
  dsimp only
  split
  · exact ⟨(Nj s false).trans h1, hf, by rw [f4]; exact h3⟩
  · rename_i hG
    rw [f2] at hf
    refine ⟨(Nj s false).trans h1, ?_, by show UI (s.dQ false).was.L _ [] A n; rw [show (((s.dQ false).lY (s.dQ false).here.dropLast).TK (((s.dQ false).here.getLastD []).reverse.map DX)).Ie.was = s.was from f4, f4]; exact h3⟩
    have hd := hf.drop hG
    show UI (bF.apps ((s.dQ false).c.L, (s.dQ false).c.pt, (s.dQ false).c.mark) (((s.dQ false).here.getLastD []).reverse.map DX)).1 (xk (s.dQ false).c.un (s.dQ false).c.place (s.dQ false).here.dropLast (s.dQ false).c.place) (s.dQ false).put A n
    rw [abt, iL, f2]
    exact hd
theorem J5.edit (h : J5 s A n) (hn : n < 16384) (p : Ip) : J5 (s.edit p) A (n + 1) := by
  have hm : J5 s A (n + 1) := h.more (by omega)
  unfold bF.edit
  by_cases k0 : p.kd = 0
  · rw [if_pos k0]
    unfold bF.DK; rw [if_pos h.inn]; dsimp only
    by_cases hc : s.XW p.text = 0 ∧ s.cls = 0
    · rw [if_pos hc]; exact (h.Uw hn _ _ _).same rfl rfl rfl rfl rfl
    · rw [if_neg hc]; exact h.Uw hn _ _ _
  rw [if_neg k0]
  by_cases k1 : p.kd = 1
  · rw [if_pos k1]
    exact h.Uw hn _ _ _
  rw [if_neg k1]
  by_cases k2 : p.kd = 2
  · rw [if_pos k2]
    exact h.Uw hn _ _ _
  rw [if_neg k2]
  by_cases k3 : p.kd = 3
  · rw [if_pos k3]
    exact h.Uw hn _ _ _
  rw [if_neg k3]
  by_cases k4 : p.kd = 4
  · rw [if_pos k4]
    unfold bF.xu
    by_cases hc : s.uD p.a p.b p.back = 0
    · rw [if_pos hc]; exact (h.copy _ _ _).Uw hn _ _ _
    · rw [if_neg hc]; exact hm
  rw [if_neg k4]
  by_cases k5 : p.kd = 5
  · rw [if_pos k5]
    exact hm.copy _ _ _
  rw [if_neg k5]
  by_cases k6 : p.kd = 6
  · rw [if_pos k6]
    unfold bF.xP
    by_cases hc : s.Cm = 0
    · rw [if_pos hc]; exact (h.Uw hn s.c.pt s.c.pt s.top).same rfl rfl rfl rfl rfl
    · rw [if_neg hc]; exact hm
  rw [if_neg k6]
  by_cases k7 : p.kd = 7
  · rw [if_pos k7]
    unfold bF.agG
    by_cases hc : s.agF p.a = 0
    · rw [if_pos hc]; exact (h.Uw hn s.c.fr s.c.to (s.acY p.a)).same rfl rfl rfl rfl rfl
    · rw [if_neg hc]; exact hm
  rw [if_neg k7]
  by_cases k8 : p.kd = 8
  · rw [if_pos k8]
    unfold bF.uF; rw [if_pos h.inn]; exact hm.same rfl rfl rfl rfl rfl
  rw [if_neg k8]
  by_cases k9 : p.kd = 9
  · rw [if_pos k9]
    unfold bF.aea; rw [if_pos h.inn]; exact hm.same rfl rfl rfl rfl rfl
  rw [if_neg k9]
  by_cases k10 : p.kd = 10
  · rw [if_pos k10]
    unfold bF.aeb; rw [if_pos h.inn]; exact hm.same rfl rfl rfl rfl rfl
  rw [if_neg k10]
  by_cases k11 : p.kd = 11
  · rw [if_pos k11]
    exact hm.ada
  rw [if_neg k11]
  by_cases k17 : p.kd = 17
  · rw [if_pos k17]
    unfold bF.vV
    by_cases hc : s.vU p.a = 0
    · rw [if_pos hc]; exact hm.same rfl rfl rfl rfl rfl
    · rw [if_neg hc]; exact hm
  rw [if_neg k17]
  exact hm
theorem abv (u : bF) (h : u.inn = true) : (u.lD 0).put = [] := by
  by_cases ha : u.argues = true <;> by_cases hp : u.put = [] <;> by_cases hc : u.cls = 2 <;> simp [bF.lD, bF.kU, bF.jT, bF.dQ, bF.tC, bF.lY, bF.iO, bF.here, iL, ha, hp, hc, h]
theorem J5.end_ (h : J5 s A n) (err : Int) : Iu (s.lD err) A n := by
  by_cases he : err = 0
  · subst he
    refine ⟨EH _ h.inn, abv _ h.inn, ?_⟩
    have e1 : (s.lD 0).here = s.iO (s.typed && s.c.run) := Ld s h.inn
    rw [GN _ h.inn, e1]
    exact h.now.flush _
  · unfold bF.lD
    rw [if_pos h.inn, if_neg he]
    exact ⟨rfl, rfl, h.was⟩
structure ahi where
  parts : List Ip
  err : Int
def bF.Yj (s : bF) (p : Ip) : bF := if p.kd ≠ 13 ∧ p.kd < 20 then s.edit p else s
def bF.akb (s : bF) (c : ahi) : bF := (c.parts.foldl bF.Yj s.bH).lD c.err
theorem J5.parts (l : List Ip) : ∀ {s : bF} {n : Nat}, J5 s A n → n + l.length ≤ 16384 → J5 (l.foldl bF.Yj s) A (n + l.length) := by
  induction l with
  | nil => intro s n h _; exact h
  | cons p l ih =>
    intro s n h hn
    rw [List.length_cons] at hn ⊢
    have h1 : J5 (s.Yj p) A (n + 1) := by
      unfold bF.Yj; split
      · exact h.edit (by omega) p
      · exact h.more (by omega)
    have := ih h1 (by omega)
    rwa [show n + 1 + l.length = n + (l.length + 1) from by omega] at this
def akc (cs : List ahi) : Nat := (cs.map fun c => c.parts.length).sum
def Np (s : bF) : bF := s.bH.Bl.lD 0
def Qb (s : bF) : Nat → bF
  | 0 => s
  | k + 1 => Np (Qb s k)
theorem Iu.abw (h : Iu s A n) : s.bH.here = s.here ∧ s.bH.put = [] := by
  have e : s.bH = { s with inn := true, was := s.c, cls := 0, killed := false, lT := false, argues := false, whole := true, put := [] } := by unfold bF.bH; rw [if_neg (by rw [h.inn]; decide)]
  rw [e]; exact ⟨rfl, rfl⟩
theorem Iu.ahj (h : Iu s A n) (hG : s.here ≠ []) : Iu (Np s) A n ∧ s.bH.Ib = 0 ∧ (Np s).here = s.here.dropLast := by
  have hb := h.begin
  obtain ⟨e1, e2⟩ := h.abw
  have hf : s.bH.dQ false = s.bH := by unfold bF.dQ; rw [if_pos e2]
  refine ⟨hb.ada.end_ 0, by unfold bF.Ib; rw [if_pos hb.inn, hf, e1, if_neg hG], ?_⟩
  have hi := hb.ada.inn
  have e3 : (Np s).here = s.bH.Bl.iO (s.bH.Bl.typed && s.bH.Bl.c.run) := Ld _ hi
  have e4 : s.bH.Bl = ((s.bH.lY s.here.dropLast).TK ((s.here.getLastD []).reverse.map DX)).Ie := by
    unfold bF.Bl; rw [if_pos hb.inn]; dsimp only; rw [hf, e1, if_neg hG]
  rw [e3, e4]
  unfold bF.iO
  rw [if_pos (by exact e2)]
  exact iL _ _ _
theorem Iu.Qb (h : Iu s A n) : ∀ k, k ≤ s.here.length → Iu (Qb s k) A n ∧ (Go.Proofs.YtpdeedplgmbopaaGreatDoor.Qb s k).here.length = s.here.length - k
  | 0, _ => ⟨h, rfl⟩
  | k + 1, hk => by
    obtain ⟨a, b⟩ := Iu.Qb h k (by omega)
    obtain ⟨c1, c2, c3⟩ := a.ahj (fun c => by rw [c] at b; simp at b; omega)
    refine ⟨c1, ?_⟩
    show (Np (Go.Proofs.YtpdeedplgmbopaaGreatDoor.Qb s k)).here.length = _
    rw [c3, List.length_dropLast, b]; omega
theorem Iu.empty (h : Iu s A n) (hG : s.here = []) : s.bH.Ib = 6 ∧ s.bH.Bl = s.bH ∧ s.bH.agI = s.bH ∧ (s.bH.lD 0).c.L = A := by
  have hb := h.begin
  obtain ⟨e1, e2⟩ := h.abw
  have hf : s.bH.dQ false = s.bH := by unfold bF.dQ; rw [if_pos e2]
  refine ⟨by unfold bF.Ib; rw [if_pos hb.inn, hf, e1, if_pos hG], by unfold bF.Bl; rw [if_pos hb.inn]; dsimp only; rw [hf, e1, if_pos hG], by unfold bF.agI; rw [if_pos hb.inn]; dsimp only; rw [hf, e1, if_pos hG], ?_⟩
  have := h.now.bk
  rw [hG] at this
  rw [GN _ hb.inn, qj]
  exact this
end
end Go.Proofs.YtpdeedplgmbopaaGreatDoor
end
section
namespace Go.Proofs.YtpdeedplgmbopaaGreatDoor


end Go.Proofs.YtpdeedplgmbopaaGreatDoor
end
section
namespace Go.Proofs.YtpdeedplgmbopaaGreatDoor
open Go.RowKit
def RE (e : jl) : Prop := uJ e.2.1 ∧ uJ e.2.2
def RG (G : List (List jl)) : Prop := ∀ g ∈ G, ∀ e ∈ g, RE e
structure RC (c : oQ) : Prop where
  L : uJ c.L
  E : ∀ x ∈ c.E, uJ x
  un : ∀ k, RG (c.un k)
structure RS (s : bF) : Prop where
  c : RC s.c
  put : ∀ e ∈ s.put, RE e
  was : s.inn = true → RC s.was
structure Fr (s t : bF) : Prop where
  inn : t.inn = s.inn
  was : t.was = s.was
  hl : t.hl = s.hl
  qQ : t.qQ = s.qQ
section
variable {s t u : bF} {L l : List Int}
theorem uJ.nil : uJ [] := fun x hx => absurd hx (by simp)
theorem uJ.app (h : uJ L) (g : uJ l) : uJ (L ++ l) := fun x hx => (List.mem_append.1 hx).elim (h x) (g x)
theorem uJ.take (h : uJ L) (n : Nat) : uJ (L.take n) := fun x hx => h x (List.mem_of_mem_take hx)
theorem uJ.drop (h : uJ L) (n : Nat) : uJ (L.drop n) := fun x hx => h x (List.mem_of_mem_drop hx)
theorem Fr.refl (s : bF) : Fr s s := ⟨rfl, rfl, rfl, rfl⟩
theorem Fr.trans (h : Fr s t) (g : Fr t u) : Fr s u := ⟨g.inn.trans h.inn, g.was.trans h.was, g.hl.trans h.hl, g.qQ.trans h.qQ⟩
def Kept (s t : bF) : Prop := RS t ∧ Fr s t
end
section
variable {P : Program} {L : List (Nat × Value)} {w0 w : World} {F : HP} {ty : TypeId} {α : Type} {K : Key α} {f : α → Option Value} {a : α} {b : Nat} {x y z : Operand}
theorem CO [DecidableEq α] {t kt et : TypeId} {v : Value} (H : V w0 w (iV K b f • F)) (ht : P.underlying t = some (.map kt et)) (hk : P.underlying kt = some K.d)
    (hx : ev L x = some (.map (some b))) (hy : ev L y = some (K.mk a)) (hz : ev L z = some v) : xU P L (.insert t x y z) ty w fun _ w' => V w0 w' (iV K b (upd f a v) • F) := yK (ty := ty) (y := y) (z := z) H ht hk hx hy hz
theorem Zp {t t' kt et : TypeId} {a : Option Nat} (ht : P.underlying t = some (.map kt et)) (hx : ev L x = some (.map a)) (hy : ev L y = some (.map none)) : Val P L (.binOp .eql t x y t') ty w (.bool a.isNone) w := fun ρ hρ _ _ _ _ => by
  simp only [execOp, hρ _ _ hx, hρ _ _ hy]
  have h1 : (eqGuard .eql t x y (.map a) (.map none)).run P w = .ok () w := by unfold eqGuard; rfl
  have h2 : (Op.equal t (.map a) (.map none)).run P w = .ok a.isNone w := EY fun d => by cases a <;> simp [Op.equalIn, run_underlying ht]
  have h3 : binOp .eql t (.map a) (.map none) = (do pure (.bool (← Op.equal t (.map a) (.map none)))) := by rfl
  simp only [Sem.run_bind, h1, Result.andThen, h3, h2]
  simp
end
def mJ (P : Int → Bool) (l : List Int) (x : Int) : Int := x + (((l.drop x.toNat).takeWhile P).length : Nat)
def yZ (P : Int → Bool) (l : List Int) (x : Int) : Int := x - (((l.take x.toNat).reverse.takeWhile P).length : Nat)
section
variable {P : Int → Bool} {l : List Int} {x : Int}
theorem kY (h : (l.length : Int) ≤ x) : mJ P l x = x := by
  unfold mJ
  rw [List.drop_of_length_le (by omega)]
  simp
theorem uV (h0 : 0 ≤ x) (h1 : x < l.length) (h : P (l.getD x.toNat 0) = true) : mJ P l x = mJ P l (x + 1) := by
  unfold mJ
  rw [List.getD_eq_getElem?_getD, List.getElem?_eq_getElem (by omega), Option.getD_some] at h
  rw [List.drop_eq_getElem_cons (by omega), List.takeWhile_cons, if_pos h, show (x + 1).toNat = x.toNat + 1 from by omega, List.length_cons]
  omega
theorem nU (h0 : 0 ≤ x) (h1 : x < l.length) (h : ¬ P (l.getD x.toNat 0) = true) : mJ P l x = x := by
  unfold mJ
  rw [List.getD_eq_getElem?_getD, List.getElem?_eq_getElem (by omega), Option.getD_some] at h
  rw [List.drop_eq_getElem_cons (by omega), List.takeWhile_cons, if_neg h]
  simp
theorem vI (h0 : 0 ≤ x) (h1 : x ≤ l.length) : x ≤ mJ P l x ∧ mJ P l x ≤ l.length := by
  unfold mJ
  have h2 := (List.takeWhile_sublist P (l := l.drop x.toNat)).length_le
  rw [List.length_drop] at h2
  omega
theorem yP (h : x ≤ 0) : yZ P l x = x := by
  unfold yZ
  rw [show x.toNat = 0 from by omega]
  simp
theorem Uy (h0 : 0 < x) (h1 : x ≤ l.length) : (l.take x.toNat).reverse = l.getD (x - 1).toNat 0 :: (l.take (x - 1).toNat).reverse := by
  rw [show x.toNat = (x - 1).toNat + 1 from by omega, List.take_succ_eq_append_getElem (by omega), List.reverse_append, List.getD_eq_getElem?_getD, List.getElem?_eq_getElem (by omega)]
  rfl
theorem Nq (h0 : 0 < x) (h1 : x ≤ l.length) (h : P (l.getD (x - 1).toNat 0) = true) : yZ P l x = yZ P l (x - 1) := by
  unfold yZ
  rw [Uy h0 h1, List.takeWhile_cons, if_pos h, List.length_cons]
  omega
theorem Bv (h0 : 0 < x) (h1 : x ≤ l.length) (h : ¬ P (l.getD (x - 1).toNat 0) = true) : yZ P l x = x := by
  unfold yZ
  rw [Uy h0 h1, List.takeWhile_cons, if_neg h]
  simp
theorem Nr (h0 : 0 ≤ x) (h1 : x ≤ l.length) : 0 ≤ yZ P l x ∧ yZ P l x ≤ x := by
  unfold yZ
  have h2 := (List.takeWhile_sublist P (l := (l.take x.toNat).reverse)).length_le
  rw [List.length_reverse, List.length_take] at h2
  omega
end
end Go.Proofs.YtpdeedplgmbopaaGreatDoor
end
section
namespace Go.Proofs.YtpdeedplgmbopaaGreatDoor
open Go.RowKit
open _root_.Go.Proofs.Tryz
def iw (r : Int) : Int := if r = 32 ∨ r = 9 ∨ r = 10 then 0 else if r = 95 ∨ fH r = true then 1 else 2
def dN (r : Int) (big : Bool) : Int := if big then min (iw r) 1 else iw r
def Bz (l : List Int) (x : Int) (big : Bool) : Int :=
  mJ (fun r => iw r == 0) l (if x < l.length then (if dN (l.getD x.toNat 0) big = 0 then x else mJ (fun r => dN r big == dN (l.getD x.toNat 0) big) l x) else x)
section
variable {w0 w : World} {F : HP} {r x : Int} {big : Bool} {l : List Int} {v : Value}
theorem rH (H : V w0 w F) (hT : vZ w0) : iQ prog 14 #[.int .i32 r] w fun v' w' => v' = .int .i64 (iw r) ∧ V w0 w' F := by
  refine ji func14 ntmps14 ?_
  refine ku O (aI (bf (bM O (aQ (eF O O) (jm O (fun h1 => ?_) (fun h1 => ?_))))))
  · (try simp only [Z] at h1)
    refine bn (bn (je O O (bJ O (bn (bn (je O O (dZ O (C9 (kC O (aU (aA (dI results14 O ?_))))))))))))
    exact ⟨by unfold iw; rw [if_pos (by omega)], H⟩
  · (try simp only [Z] at h1)
    refine aY (bJ O (aY (aQ (eF O O) (fG O O (jm O (fun h2 => ?_) (fun h2 => ?_))))))
    · (try simp only [Z] at h2)
      refine bn (bn (je O O (dZ O (C9 (kC O (aU (aA (dI results14 O ?_))))))))
      exact ⟨by unfold iw; rw [if_pos (by omega)], H⟩
    · (try simp only [Z] at h2)
      refine aY (bJ O (aY (aQ (eF O O) (fG O O (dZ O (aZ O (fun h3 => ?_) (fun h3 => ?_)))))))
      · (try simp only [Z] at h3)
        refine kC O (aU (aA (dI results14 O ?_)))
        exact ⟨by unfold iw; rw [if_pos (by omega)], H⟩
      · (try simp only [Z] at h3)
        refine bM O (aQ (eF O O) (jm O (fun h4 => ?_) (fun h4 => ?_)))
        · (try simp only [Z] at h4)
          refine bn (bn (je O O (dZ O (C9 (kC O (aU (aA (dI results14 O ?_))))))))
          exact ⟨by unfold iw; rw [if_neg (by omega), if_pos (by first | (left; omega) | (right; assumption))], H⟩
        · (try simp only [Z] at h4)
          refine aY (bJ O (aY (dS O func47 (VJ H hT) ?_)))
          rintro _ w1 ⟨rfl, H1⟩
          refine fG O O (dZ O (aZ O (fun h5 => ?_) (fun h5 => ?_)))
          · (try simp only [Z] at h5)
            refine kC O (aU (aA (dI results14 O ?_)))
            exact ⟨by unfold iw; rw [if_neg (by omega), if_pos (by first | (left; omega) | (right; assumption))], H1⟩
          · (try simp only [Z] at h5)
            refine dh (aH (aX (kC O (dI results14 O ?_))))
            exact ⟨by unfold iw; rw [if_neg (by omega), if_neg (by intro c; rcases c with c | c; omega; simp_all)], H1⟩
theorem oJ (H : V w0 w F) (hT : vZ w0) : iQ prog 142 #[.int .i32 r, .bool big] w fun v' w' => v' = .int .i64 (dN r big) ∧ V w0 w' F := by
  refine qc func142 ntmps142 ?_
  refine ku O (aI (bM O (jr O (fun h1 => ?_) (fun h1 => ?_))))
  · (try simp only [Z] at h1)
    have hb : big = true := h1
    refine bM O (dS O func14 (rH H hT) ?_)
    rintro _ w1 ⟨rfl, H1⟩
    refine aQ (wO O O) (fA O (aA (dI results142 O ?_)))
    exact ⟨by unfold dN; rw [if_pos hb], H1⟩
  · (try simp only [Z] at h1)
    have hb : big = false := h1
    refine fV (bM O (dS O func14 (rH H hT) ?_))
    rintro _ w2 ⟨rfl, H2⟩
    refine fA O (dI results142 O ?_)
    exact ⟨by unfold dN; rw [if_neg (by rw [hb]; decide)], H2⟩
end
end Go.Proofs.YtpdeedplgmbopaaGreatDoor
end
