import Derived.Test.YtgndbccogcofjaaGreatDoorZ2
import Derived.Test.YtgndbccogcofjaaGreatDoorZ8
import Derived.Test.YtgndbccogcofjaaGreatDoorZ9
import Derived.Test.YtgndbccogcofjaaGreatDoorZ11
import Derived.Test.YtgndbccogcofjaaGreatDoorZ6
set_option linter.unusedSimpArgs false
set_option linter.unusedVariables false
/- Texts of mine, joined, their names in short: EdM UGroups Ed EdTwin. -/
section
namespace Go.Proofs.YtgndbccogcofjaaGreatDoor
open Go.RowKit
def wS {β : Type} (f : Int → β) (a : Int) (v : β) : Int → β := fun x => if x = a then v else f x
theorem fD {β : Type} (f : Int → β) (a : Int) (v : β) : wS f a v a = v := if_pos rfl
theorem sS {β : Type} (f : Int → β) {a x : Int} (v : β) (h : x ≠ a) : wS f a v x = f x := if_neg h
theorem QX {β : Type} (f : Int → β) (a : Int) : wS f a (f a) = f := by funext x; unfold wS; split <;> simp_all
structure kY where
  L : List Int
  pt : Int
  mark : Int
  E : List (List Int)
  at_ : Nat
  place : Int
  tx : Int → Option ByteArray
  un : Int → List (List dX)
  mode : Int
  over : Bool
  last : Int
  fr : Int
  to : Int
  res : Int
  run : Bool
structure bg where
  c : kY
  hl : List oQ
  base : Int
  most : Int
  vT : Int
  given : Bool
  minus : Bool
  arg : Int
  dP : Bool
  was : kY
  cls : Int
  killed : Bool
  jX : Bool
  argues : Bool
  whole : Bool
  put : List dX
def Yc (hl : List oQ) (k : Int) : oQ := if 0 ≤ k ∧ k < hl.length then hl.getD k.toNat default else (.empty, 0)
def Gp (hl : List oQ) (k : Int) : ByteArray := (Yc hl k).1
def Dn (hl : List oQ) (tx : Int → Option ByteArray) (k : Int) : ByteArray := (tx k).getD (Gp hl k)
def QY (hl : List oQ) (tx : Int → Option ByteArray) (place : Int) (k : Nat) : Bool := decide ((k : Int) ≠ place) && !((Dn hl tx k).toList == (Gp hl k).toList)
def QZ (hl : List oQ) (tx : Int → Option ByteArray) (place : Int) (n : Nat) : List (Int × ByteArray) := ((List.range n).filter (QY hl tx place)).map fun (k : Nat) => ((k : Int), Dn hl tx k)
def Q5 (hl : List oQ) (tx : Int → Option ByteArray) (place : Int) : List (Int × ByteArray) := QZ hl tx place hl.length ++ (if place ≠ hl.length then [((hl.length : Int), Dn hl tx hl.length)] else [])
def OZ (G : List (List dX)) (dP : Bool) (put : List dX) (typed run : Bool) : Int := (G.length : Int) + if dP && !put.isEmpty && !(typed && run) then 1 else 0
namespace bg
variable (s : bg)
def here : List (List dX) := s.c.un s.c.place
def jU (G : List (List dX)) : bg := { s with c := { s.c with un := wS s.c.un s.c.place G } }
def sU : Int := if s.dP then 0 else 1
def zC : Int := if s.dP then 1 else 0
def aU : bg := if s.dP then s else { s with dP := true, was := s.c, cls := 0, killed := false, jX := false, argues := false, whole := true, put := [] }
def iO (on : Bool) : List (List dX) := if s.put = [] then s.here else if on then (match s.here.getLast? with | some g => s.here.dropLast ++ [g ++ s.put] | none => [s.put]) else s.here ++ [s.put]
def dJ (on : Bool) : bg := if s.put = [] then s else { s.jU (s.iO on) with put := [] }
def qW : bg := { s with given := false, minus := false, arg := -1 }
def qo (err : Int) : Int := if s.dP then err else 1
def uz : bg := { s.qW with dP := false, c := { s.was with last := 0, fr := 0, to := 0 }, vT := IntKind.i64.wrap (s.vT + 1), put := [] }
def typed : Bool := s.cls == 3 && s.whole
def dZ : bg := { (if s.argues then s else s.qW) with dP := false }
def iW : bg :=
  let t := s.dZ.dJ (s.typed && s.c.run)
  let c := { t.c with run := s.typed && (!s.put.isEmpty || s.c.run), last := s.cls }
  { t with c := if s.cls ≠ 2 then { c with fr := 0, to := 0 } else c }
def gq (err : Int) : bg := if s.dP then (if err = 0 then s.iW else s.uz) else s
def lD (x : dX) : bg :=
  if x.2.1.length + x.2.2.length = 0 then s else
  if 16384 ≤ dS s.here s.put then { s.jU [] with put := [x], c := { (s.jU []).c with run := false } } else { s with put := s.put ++ [x] }
def iJ (L : List Int) (pt mk : Int) : bg := { s with c := { s.c with L := L, pt := pt, mark := mk } }
def jY (i j : Int) (l : List Int) : Int := if s.dP then iY s.c.L i j l else 1
def jf (i j : Int) (l : List Int) : bg := if s.dP then (s.iJ (kW s.c.L i j l) (kX s.c.L s.c.pt i j l) (mG s.c.L s.c.mark i j l)).lD (nP s.c.L i j l, jB s.c.L i j l, jC s.c.L i j l) else s
def IE (l : List Int) : Int := s.jY s.c.pt s.c.pt l
def qp (l : List Int) : bg := s.jf s.c.pt s.c.pt l
def zD (l : List Int) : Int := if s.c.over then min (s.c.pt + l.length) s.c.L.length else s.c.pt
def O4 (l : List Int) : Int := s.jY s.c.pt (s.zD l) l
def xq (l : List Int) : bg := if s.dP then (let t := s.jf s.c.pt (s.zD l) l; if s.O4 l = 0 ∧ s.cls = 0 then { t with cls := 3 } else t) else s
def way (back : Bool) : Int := if s.c.last = 1 ∨ s.killed = true then (if back then 2 else 1) else 0
def jL (i j : Int) : Prop := i < 0 ∨ s.c.L.length < i ∨ j < i ∨ s.c.L.length < j
instance (i j : Int) : Decidable (s.jL i j) := by unfold jL; infer_instance
def cut (i j : Int) : List Int := (s.c.L.drop i.toNat).take (j.toNat - i.toNat)
def ku (i j : Int) (back : Bool) : Int × List (List Int) × Nat := vN s.c.E s.c.at_ (s.way back) (s.cut i j)
def kK (i j : Int) (back : Bool) : Int := if s.dP then (if s.jL i j then 70 else (s.ku i j back).1) else 1
def yN (E : List (List Int)) (a : Nat) : bg := { s with c := { s.c with E := E, at_ := a } }
def kC (i j : Int) (back : Bool) : bg := if s.kK i j back = 0 then { s.yN (s.ku i j back).2.1 (s.ku i j back).2.2 with killed := true, cls := 1 } else s
def ES (i j : Int) (back : Bool) : Int := if s.kK i j back = 0 then (s.kC i j back).jY i j [] else s.kK i j back
def nR (i j : Int) (back : Bool) : bg := if s.kK i j back = 0 then (s.kC i j back).jf i j [] else s
def top : List Int := s.c.E.getD s.c.at_ []
def mV : Int := if s.dP then (if s.c.E.length = 0 then 6 else s.IE s.top) else 1
def ji : bg :=
  if s.mV = 0 then
    let t := s.qp s.top
    { t with jX := true, cls := 2, c := { t.c with mark := QG t.c.L t.c.mark s.c.pt, fr := s.c.pt, to := s.c.pt + s.top.length } }
  else s
def Ui (n : Int) : List Int := s.c.E.getD (zq s.c.E.length s.c.at_ n) []
def Yd (n : Int) : Int := if s.dP then (if s.c.last ≠ 2 ∨ s.jX = true then 6 else if s.c.E.length = 0 then 6 else s.jY s.c.fr s.c.to (s.Ui n)) else 1
def aay (n : Int) : bg :=
  if s.Yd n = 0 then
    let t := s.jf s.c.fr s.c.to (s.Ui n)
    { t with jX := true, cls := 2, c := { t.c with E := s.c.E, at_ := zq s.c.E.length s.c.at_ n, fr := s.c.fr, to := s.c.fr + (s.Ui n).length } }
  else s
def kills : List (List Int) := s.c.E.drop s.c.at_ ++ s.c.E.take s.c.at_
def qx (x : Int) : Int := if s.dP then Si s.c.L.length x else 1
def kZ (x : Int) : bg := if s.dP then s.iJ s.c.L (QF s.c.L.length s.c.pt x) s.c.mark else s
def aah (x : Int) : Int := if s.dP then XP s.c.L x else 1
def aai (x : Int) : bg := if s.dP then s.iJ s.c.L s.c.pt (QG s.c.L s.c.mark x) else s
def aaj : Int := if s.dP then swE s.c.mark else 1
def aak : bg := if s.dP then s.iJ s.c.L (swP s.c.pt s.c.mark) (swM s.c.pt s.c.mark) else s
def Ye (b : List Int × Int × Int) (x : dX) : List Int × Int × Int := (XY b.1 x.1 x.2.1 x.2.2, XZ b.1 b.2.1 x.1 x.2.1 x.2.2, X0 b.1 b.2.2 x.1 x.2.1 x.2.2)
def apps (b : List Int × Int × Int) (l : List dX) : List Int × Int × Int := l.foldl Ye b
def Sz (l : List dX) : bg := let b := apps (s.c.L, s.c.pt, s.c.mark) l; s.iJ b.1 b.2.1 b.2.2
def Ll : bg := { s with whole := false, c := { s.c with run := false } }
def aal : bg := if s.dP then (let t := s.dJ false; if t.here = [] then t else ((t.jU t.here.dropLast).Sz ((t.here.getLastD []).reverse.map Dc)).Ll) else s
def OV : Int := if s.dP then (if (s.dJ false).here = [] then 6 else 0) else 1
def aaz : bg := if s.dP then (let t := s.dJ false; if t.here = [] then t else ((t.jU []).Sz (t.here.flatten.reverse.map Dc)).Ll) else s
def Uj (d : Int) : Int := if s.dP then (if d < 0 ∨ 9 < d then 1 else 0) else 1
def Yf (d : Int) : bg := if s.Uj d = 0 then { s with given := true, argues := true, arg := min (max s.arg 0 * 10 + d) 1000000 } else s
def aaA : bg := if s.dP then { s with given := true, argues := true, minus := !s.minus } else s
def Yg (n : Int) : Int := if s.dP then (if 1000000 < n ∨ n < -1000000 then 1 else 0) else 1
def aaB (n : Int) : bg := if s.Yg n = 0 then { s with given := true, argues := true, minus := decide (n < 0), arg := max n (-n) } else s
def count : Int := if s.given then (let n := if s.arg < 0 then 1 else s.arg; if s.minus then -n else n) else 1
def VZ (m : Int) : Int := if s.dP then (if m < 0 ∨ 2 < m then 1 else 0) else 1
def aam (m : Int) : bg := if s.VZ m = 0 then { s with c := { s.c with mode := m } } else s
def aan (b : Bool) : bg := if s.dP then { s with c := { s.c with over := b } } else s
def Yh (r : Int) : Int := if s.dP then (if r < 1 ∨ 3 < r then 1 else 0) else 1
def aaC (r : Int) : bg := if s.Yh r = 0 then { s with c := { s.c with res := r } } else s
def first (k : Int) : ByteArray := Gp s.hl k
def stands (k : Int) : ByteArray := (s.c.tx k).getD (s.first k)
def Yi : Int := OZ s.here s.dP s.put s.typed s.c.run
def saved : List (Int × ByteArray) := Q5 s.hl s.c.tx s.c.place
def aao : Int := if s.dP then s.was.last else s.c.last
def frS : Int := if s.dP then s.was.fr else s.c.fr
def toS : Int := if s.dP then s.was.to else s.c.to
end bg
def kY.fresh (l : List Int) (E : List (List Int)) (a : Nat) (place mode : Int) : kY := ⟨l, l.length, -1, E, a, place, fun _ => none, fun _ => [], mode, false, 0, 0, 0, 0, false⟩
def bg.start (s : bg) (hl : List oQ) (base most : Int) (l : List Int) : bg := { s with c := kY.fresh l s.c.E s.c.at_ hl.length s.c.mode, hl := hl, base := base, most := most, given := false, minus := false, arg := -1 }
def bg.new (hl : List oQ) (base most : Int) : bg :=
  let c := kY.fresh [] [] 0 hl.length 0
  { c := c, hl := hl, base := base, most := most, vT := 0, given := false, minus := false, arg := -1, dP := false, was := c, cls := 0, killed := false, jX := false, argues := false, whole := false, put := [] }
end Go.Proofs.YtgndbccogcofjaaGreatDoor
end
section
namespace Go.Proofs.YtgndbccogcofjaaGreatDoor
open Go.RowKit
open _root_.Go.Proofs.Tryz
def xu (c : Nat) (G : List (List dX)) (N : List dX) (k : Nat) : HP := rD fun (x : Value × List (Value × List cO)) => fact (x.2.map (fun g => g.2.map cO.says) = Gm N ++ G.reverse.take k) • dB c (.cells #[x.1] 176 (0, 0)) • yI x.1 x.2
theorem rev_succ {G : List (List dX)} {k : Nat} (hk : k < G.length) : G.reverse.take (k + 1) = G.reverse.take k ++ [G.getD (G.length - (k + 1)) []] := by
  rw [List.take_succ_eq_append_getElem (by simpa using hk)]
  congr 1
  rw [List.getElem_reverse, List.getD_eq_getElem?_getD, List.getElem?_eq_getElem (by omega)]
  have e : G.length - 1 - k = G.length - (k + 1) := by omega
  simp only [Option.getD_some, e]
section
variable {w0 w : World} {F : HP} {p c k : Nat} {G : List (List dX)} {N : List dX} {op : Int} {v u : Value} {es fs : List cO} {gs hs : List (Value × List cO)}
theorem aB.IG (H : aB w0 w (xu c G N k • F)) : ∃ u hs, hs.map (fun g => g.2.map cO.says) = Gm N ++ G.reverse.take k ∧ hs.length ≤ G.length + 1 ∧ aB w0 w (dB c (.cells #[u] 176 (0, 0)) • Row 35 1 u hs.length (hs.map (·.1)) • mO hs • F) := by
  obtain ⟨⟨u, hs⟩, H⟩ := H.lK
  obtain ⟨h, H⟩ := H.flat.fact
  refine ⟨u, hs, h, ?_, (H.flat.swap.TP).f3⟩
  have := congrArg List.length h
  have := OY N
  simp only [List.length_map, List.length_append, List.length_take, List.length_reverse] at *
  omega
theorem aB.Dp (h : hs.map (fun g => g.2.map cO.says) = Gm N ++ G.reverse.take k) (H : aB w0 w (dB c (.cells #[u] 176 (0, 0)) • yI u hs • F)) : aB w0 w (xu c G N k • F) :=
  aB.gY (u, hs) (aB.deep (aB.jF h H.deep))
theorem Nj (H : aB w0 w F) (hv : v.oneCell' = true) : fO prog 216 #[v] w fun v' w' => ∃ b, v' = .func (.func 239) #[] #[.pointer (some ⟨b, 0, none⟩)] ∧ aB w0 w' (dB b (.cells #[v] 176 (0, 0)) • F) := by
 refine gB func216 ntmps216 ?_
 dsimp only [bf, Nat.reduceAdd]
 refine ay (ah (jh (iL (l := [_]) H rfl (by first | rfl | exact zi (by first | rfl | assumption))) ?_))
 rintro _ w1 ⟨b1, rfl, H1⟩
 refine aV rfl (aA (aj (ay (ah (aX (tN rfl rfl) (aV rfl (aA (aj (aJ (aI (.inl rfl) results216 rfl ?_))))))))))
 exact ⟨_, rfl, H1⟩
theorem JX (b : Nat) : Iter prog w0 (.func (.func 239) #[] #[.pointer (some ⟨b, 0, none⟩)]) (dB b (.cells #[v] 176 (0, 0)) • Row 35 1 v gs.length (gs.map (·.1)) • mO gs) gs.length
  (fun k vs A => ∃ gl uq, gs.getD (gs.length - (k + 1)) default = (gl, uq) ∧ vs = [.int .i64 ((gs.length - (k + 1) : Nat) : Int), gl] ∧ A = y5 gl uq) := by
 intro l J X w hy H
 refine ⟨239, [], [.pointer (some ⟨b, 0, none⟩)], _, _, rfl, func239, rfl, rfl, ?_⟩
 have H1 : aB w0 w (dB b (.cells #[v] 176 (0, 0)) • Row 35 1 v gs.length (gs.map (·.1)) • mO gs • J 0) := H.of_eq (by ac_rfl)
 obtain ⟨a, c, hv, hc1, hc2, _⟩ := (H1.swap.aT).form
 subst hv
 simp only [List.nil_append, List.cons_append]
 refine gB func239 ntmps239 ?_
 dsimp only [bf, Nat.reduceAdd]
 refine ay (ah (dV underlying176 rfl (H1).get.2 rfl (aX (iM ((H1.f2).aT) underlying176 rfl) (aX (iG rfl rfl (by omega)) (aV rfl (aA (aj (bC ?_))))))))
 refine iw [(0, _), (1, _)] (fun (k : Nat) => [(3, .int .i64 ((k : Int) - 1))]) (fun (k : Nat) W => k ≤ gs.length ∧ aB w0 W (dB b (.cells #[.slice a gs.length c] 176 (0, 0)) • Row 35 1 (.slice a gs.length c) gs.length (gs.map (·.1)) • mO gs • J (gs.length - k))) (fun (k : Nat) => k) (gs.length) (Sub.cons rfl (Sub.cons rfl (Sub.nil _))) (Sub.cons rfl (Sub.nil _)) ⟨by omega, by rw [Nat.sub_self]; exact H1⟩ ?_
 rintro k w1 ⟨hk, HL⟩
 dsimp only [List.cons_append, List.nil_append]
 refine ay (ay (ah (aN rfl (aX (jS rfl rfl) (aA (aj (aO rfl (fun h1 => ?_) (fun h1 => ?_))))))))
 ·(try simp only [aH] at h1)
  try (exfalso; first | contradiction | omega)
  all_goals
   refine aP (aj (ay (bC (ay ?_))))
   obtain ⟨m, rfl⟩ : ∃ m, k = m + 1 := ⟨k - 1, by omega⟩
   rw [show (((m + 1 : Nat) : Int) - 1) = (m : Int) from by omega]
   have hkl : m < gs.length := by omega
   refine ah (aN rfl (aN rfl (dV underlying176 rfl (HL).get.2 rfl (aN rfl ?_))))
   obtain ⟨bv, ov, cv, ev⟩ := Rd.BL ((HL.f2).aT) (by omega)
   cases ev
   refine aX (iV underlying176 sizeOf35 rfl rfl (by omega)) ?_
   refine aX (nU (dK underlying35 rfl) rfl (by first | exact Rd.MI ((HL.f2).aT) (by omega) | exact Rd.Vb ((HL.f2).aT) (by omega) | exact Rd.UJ ((HL.f2).aT) (by omega))) ?_
   rw [show (gs.map (·.1)).getD m undef = (gs.getD m default).1 from by simp [List.getD_eq_getElem?_getD, hkl]]
   obtain ⟨gl, uq, hg⟩ : ∃ gl uq, gs.getD m default = (gl, uq) := ⟨_, _, rfl⟩
   rw [hg]
   have Yj := HL.f3
   have Yk := Yj.Gj hkl hg
   refine jh (Gh rfl rfl (hy (gs.length - (m + 1)) (by omega) _ _ ⟨gl, uq, by rw [show gs.length - (gs.length - (m + 1) + 1) = m from by omega]; exact hg, by rw [show gs.length - (gs.length - (m + 1) + 1) = m from by omega], rfl⟩ (mO gs • Row 35 1 (.slice (some ⟨bv, ov, none⟩) gs.length c) gs.length (gs.map (·.1)) • dB b (.cells #[.slice (some ⟨bv, ov, none⟩) gs.length c] 176 (0, 0))) _ (Yk.of_eq (by ac_rfl))).bool) ?_
   rintro _ w4 ⟨t, rfl, ht1, ht2⟩
   refine aX (kF rfl) (aA (aj (aO rfl (fun h2 => ?_) (fun h2 => ?_))))
   ·(try simp only [aH] at h2)
    try (exfalso; first | contradiction | omega)
    all_goals
     have HX := ht2 (by simpa using h2)
     refine aJ (aW (aK (aK (aW (fZ (.inl rfl) results239 ?_)))))
     exact .inr (HX.of_eq (by ac_rfl))
   ·(try simp only [aH] at h2)
    try (exfalso; first | contradiction | omega)
    all_goals
     have HN : aB w0 w4 (dB b (.cells #[.slice (some ⟨bv, ov, none⟩) gs.length c] 176 (0, 0)) • Row 35 1 (.slice (some ⟨bv, ov, none⟩) gs.length c) gs.length (gs.map (·.1)) • mO gs • J (gs.length - m)) := by
      have h9 := ht1 (by simpa using h2)
      rw [show gs.length - (m + 1) + 1 = gs.length - m from by omega] at h9
      exact h9.of_eq (by ac_rfl)
     refine aP (aQ (aj (ah (aN rfl (aX (iG rfl rfl (by omega)) (aV rfl (aA ?_)))))))
     refine fE (m) ?_ ?_ ?_ ?_
     ·exact (Sub.cons rfl (Sub.nil _))
     ·exact (Sub.cons rfl (Sub.cons rfl (Sub.nil _)))
     ·(try dsimp only)
      first | done | exact ⟨by omega, HN.f3.f3.f3⟩
     ·(try dsimp only); omega
 ·(try simp only [aH] at h1)
  try (exfalso; first | contradiction | omega)
  all_goals
   refine eX (aY (aY (bU (fZ (.inr rfl) results239 ?_))))
   obtain rfl : k = 0 := by omega
   rw [Nat.sub_zero] at HL
   exact .inl (HL.of_eq (by ac_rfl))
theorem AO (H : aB w0 w (dR p G N op • F)) : fO prog 161 #[.pointer (some ⟨p, 0, none⟩)] w fun v w' => ∃ c, v = .func (.func 217) #[] #[.pointer (some ⟨c, 0, none⟩)] ∧ aB w0 w' (xu c G N G.length • dR p G N op • F) := by
 refine gB func161 ntmps161 ?_
 dsimp only [bf, Nat.reduceAdd]
 refine ay (ah (aV rfl (aA (aj (ay (ah (jh (gJ (l := [_]) H zeroValue176 rfl) ?_)))))))
 rintro _ w1 ⟨b1, rfl, H1⟩
 refine aA (aj (ay (ay (ah (aN rfl (bZ rfl func181 (iP H1.f2) ?_))))))
 rintro _ _ ⟨rfl, rfl⟩
 refine aX (kF rfl) ?_
 obtain ⟨vO, sQ, jl, iZ, iI, pq, mX, CU, CV, F8, kT⟩ := (H1.f2).sO
 have hLn : iZ.length ≤ 16384 := by omega
 have hBn := IB mX iI.2.2.2.2.2
 refine aA (aj (aO rfl (fun h1 => ?_) (fun h => by exfalso; (try simp only [aH] at h); simp at h)))
 (try simp only [aH] at h1)
 refine KG [(0, _), (3, _)] (fun (_ : Unit) => []) (fun (_ : Unit) W => aB w0 W (xu b1 G N 0 • dB p (.cells #[vO, sQ, .int .i64 op, .int .i64 (dS G N : Nat), .bool true] 180 (0, 0)) • Row 35 1 vO jl.length (jl.map (·.1)) • mO jl • Row 101 3 sQ iZ.length (iZ.flatMap cO.enc) • je iZ • F)) (Sub.cons rfl (Sub.cons rfl (Sub.nil _))) ?_ ?_
 ·rintro _ w4 HJ
  dsimp only [List.cons_append, List.nil_append]
  refine ay (ah (aN rfl (bP rfl (bF 0 underlying180 rfl sizeOf178 rfl (bF 0 underlying178 rfl sizeOf176 rfl (dV underlying176 rfl (HJ.f2).get.2 rfl (bZ rfl func216 (Nj HJ (Rd.one ((HJ.f3).aT))) ?_)))))))
  rintro _ w5 ⟨bB5, rfl, H5⟩
  refine aA (aj (bC ?_))
  obtain ⟨R6, Xl, Yl⟩ := aB.U4 (H5.f5.f5.f3.f4)
  refine uo rfl (JX bB5) (fun k => xu b1 G N k • R6) (fact False) (fun _ => fact False) (Yl.f4.f4.f4.f4.f4.f4.f4.g3.comm) (by rfl) ?_ ?_ ?_ ?_
  ·rintro l7 k TU vs7 A7 ⟨gl, uq, hg, rfl, rfl⟩ G7 w7 H7
   try simp only [bT, jm, pF] at H7
   refine ⟨rfl, ?_⟩
   dsimp only [JO]
   obtain ⟨u, hs, OX, Yb, HI⟩ := (H7.f2).IG
   have hge : uq.map cO.says = G.getD (G.length - (k + 1)) [] := by
    rw [← CU, ← pq]
    have h9 : (jl.map (fun g => g.2.map cO.says)).getD (jl.length - (k + 1)) [] = (jl.getD (jl.length - (k + 1)) default).2.map cO.says := by simp [List.getD_eq_getElem?_getD, show jl.length - (k + 1) < jl.length by omega]
    rw [h9, hg]
   have hgm : G.getD (G.length - (k + 1)) [] ∈ G := sH (by omega)
   have hBg := IB hge (iI.2.2.2.2.1 _ hgm)
   have VW : uq.length ≤ 16384 := by
    have h8 := iI.2.1
    unfold dS at h8
    have h7 := congrArg List.length hge
    rw [List.length_map] at h7
    have h6 := Gl hgm
    omega
   refine ah (aV rfl (aA ?_))
   refine JM (HI.g5) ?_
   intro G8 w8 H8
   try simp only [bT] at H8
   refine bC ?_
   have V3 := H8.drew
   have O5 := aB.kp (V3.f4.f4.f4.f4)
   refine yZ [0] O5 rfl (jk 0 rfl O5 (fun W hW => jP underlying176 rfl ((Kp.h hW)).get.2 rfl) (iF 1 rfl O5 rfl (kE 2 rfl (wW rfl func187 (rH V3.f4 hBg VW)) ?_)))
   rintro u9 w9 ⟨fs9, Ym, H9⟩
   obtain ⟨es2, rfl⟩ : ∃ q, q = fs9 := ⟨_, rfl⟩
   have hes2 := Ym
   have JJ := aB.kp (H9.f6.f6.f6.f6.f6.f6)
   refine dQ JJ (fun W hW => (Kp.h hW).right.right.f4.f4.f4) ?_
   refine kE 3 rfl (nV (vs := [_]) H9 underlying176 sizeOf35 zeroValue35 rfl rfl rfl (by decide) (aC (by first | rfl | exact Rd.one ((H9).aT)) bV)) ?_
   rintro l10 w10 nO
   have EP := aB.kp (nO.f7.f7.f7.f7.f7.f7.f7)
   refine dQ EP (fun W hW => (Kp.h hW).right.f6.f6.f6.f6.f6.f6) ?_
   refine kE 4 rfl (iC nO.f6 underlying176 (show (prog.info? 35).map (fun i => (i.zero, i.size, i.bytes)) = some (some (.slice none 0 0), 1, 24) by kernel_rfl) rfl rfl rfl ((nO).aT) (aC (by first | rfl | exact Rd.one ((nO.f2).aT)) bV) (by omega) (by omega)) ?_
   rintro l11 Hz vk
   have JU := vk.f2.right
   have yK := aB.kp (JU.f6.f6.f6.f6.f6.f6)
   refine fQ yK (by kernel_rfl) ?_
   refine fU 5 rfl (by kernel_rfl) (aS 0 (l' := [_]) JU.f5 sizeOf176 rfl rfl (by first | rfl | exact Rd.one ((JU).aT)) rfl rfl) ?_
   rintro _ MN uO
   have wZ := aB.kp (uO.f6.f6.f6.f6.f6.f6)
   refine fQ wZ (by kernel_rfl) ?_
   refine pO (aQ ?_)
   refine CZ ?_
   have X := aB.qj (es := es2) (uO.f5.right.f5.f3.f5.f5).deep
   exact (aB.Dp (hs := hs ++ [(u9, es2)]) (by rw [List.map_append, OX, rev_succ (by omega), ← hge, ← hes2, List.append_assoc]; rfl) (aB.sN X.swap).swap).deep
  ·rintro D14 Jw xE
   have Ij := xE.ed
   try simp only [bT, jm, pF] at Ij
   have TV := Ij.KF
   subst Xl
   refine aQ (aj (ay (ah (aX (tN rfl rfl) (aV rfl (aA (aj (aJ ?_))))))))
   refine AX (.inl rfl) (TV) (fun MO uf => ?_)
   refine ⟨_, Tf results161 rfl, ?_⟩
   have hgl : xu b1 G N jl.length = xu b1 G N G.length := by rw [CU]
   rw [hgl] at uf
   have Yn := uf.f7.f7.f5.f5.f7
   have Yo := aB.jw iI pq mX rfl Yn
   exact ⟨_, rfl, Yo.f2.right.f2⟩
  ·rintro D w H; exact absurd H.swap.fact.1 id
  ·rintro id D w H; exact absurd H.swap.fact.1 fun h => h
 ·skip
  refine ay (ah (aN rfl (bP rfl (bF 0 underlying180 rfl sizeOf178 rfl (bF 1 underlying178 rfl sizeOf35 rfl (dV underlying35 rfl (kT).get.2 rfl (aX (iM ((kT.f4).aT) underlying35 rfl) (aX (dn rfl rfl) (aA (aj (aO rfl (fun h2 => ?_) (fun h2 => ?_))))))))))))
  ·(try simp only [aH] at h2)
   have hN : Gm N = [N] := if_neg (by rintro rfl; exact absurd CV (by simp only [List.length_nil]; omega))
   have SA := kT.drew
   have xM := aB.kp (SA.f6.f6.f6.f6.f6.f6)
   refine yZ [0, 5] xM rfl (jk 0 rfl xM (fun W hW => jP underlying176 rfl ((Kp.h hW).f6).get.2 rfl) (iF 1 rfl xM rfl (jQ 2 rfl xM rfl (gV 3 rfl xM 0 underlying180 rfl sizeOf178 rfl (gV 4 rfl xM 1 underlying178 rfl sizeOf35 rfl (jk 5 rfl xM (fun W hW => jP underlying35 rfl ((Kp.h hW)).get.2 rfl) (kE 6 rfl (wW rfl func187 (vS SA.f5.f5 hBn hLn)) ?_)))))))
   rintro u19 Qe ⟨Yp, V4, Au⟩
   obtain ⟨es1, rfl⟩ : ∃ q, q = Yp := ⟨_, rfl⟩
   have hes1 := V4
   have O6 := aB.kp (Au.f8.f8.f8.f8.f8.f8.f8.f8)
   refine dQ O6 (fun W hW => (Kp.h hW).right.right.f6.f3.f3.f6.f6.f6) ?_
   refine kE 7 rfl (nV (vs := [_]) Au underlying176 sizeOf35 zeroValue35 rfl rfl rfl (by decide) (aC (by first | rfl | exact Rd.one ((Au).aT)) bV)) ?_
   rintro Xm Qd uZ
   have Ag := aB.kp (uZ.f9.f9.f9.f9.f9.f9.f9.f9.f9)
   refine dQ Ag (fun W hW => (Kp.h hW).right.f8.f8.f8.f8.f8.f8.f8.f8) ?_
   refine kE 8 rfl (iC (uZ.jo none) underlying176 (show (prog.info? 35).map (fun i => (i.zero, i.size, i.bytes)) = some (some (.slice none 0 0), 1, 24) by kernel_rfl) rfl rfl rfl ((uZ).aT) (aC (by first | rfl | exact Rd.one ((uZ.f2).aT)) bV) (by omega) (by omega)) ?_
   rintro l21 QC oN
   have Gq := oN.f2.right
   have Dq := aB.kp (Gq.f9.f9.f9.f9.f9.f9.f9.f9.f9)
   refine fQ Dq (by kernel_rfl) ?_
   refine fU 9 rfl (by kernel_rfl) (aS 0 (l' := [_]) Gq.f9 sizeOf176 rfl rfl (by first | rfl | exact Rd.one ((Gq).aT)) rfl rfl) ?_
   rintro _ Qg yc
   have ET := aB.kp (yc.f9.f9.f9.f9.f9.f9.f9.f9.f9)
   refine fQ ET (by kernel_rfl) ?_
   have X := aB.qj (es := es1) (yc.f6.f6.f9.f9.f9.f6.f7.f9.f9).deep
   have Yq : aB w0 Qg (xu b1 G N 0 • dB p (.cells #[vO, sQ, .int .i64 op, .int .i64 (dS G N : Nat), .bool true] 180 (0, 0)) • Row 35 1 vO jl.length (jl.map (·.1)) • mO jl • Row 101 3 sQ iZ.length (iZ.flatMap cO.enc) • je iZ • F) :=
    aB.Dp (hs := [(u19, es1)]) (by rw [hN, ← mX, ← hes1]; rfl) (aB.sN (gs := []) X.Il.f3.f3.f2).swap
   refine pO ?_
   refine tJ (()) ?_ ?_ ?_
   ·exact (Sub.nil _)
   ·exact (Sub.cons rfl (Sub.cons rfl (Sub.nil _)))
   ·(try dsimp only)
    first | done | exact Yq
  ·(try simp only [aH] at h2)
   have hN : Gm N = [] := if_pos (by rw [← mX, List.eq_nil_of_length_eq_zero (show iZ.length = 0 by omega)]; rfl)
   have Yq : aB w0 w1 (xu b1 G N 0 • dB p (.cells #[vO, sQ, .int .i64 op, .int .i64 (dS G N : Nat), .bool true] 180 (0, 0)) • Row 35 1 vO jl.length (jl.map (·.1)) • mO jl • Row 101 3 sQ iZ.length (iZ.flatMap cO.enc) • je iZ • F) :=
    aB.Dp (hs := []) (by rw [hN]; rfl) ((kT.f5.f5.f5.f5.f5.f6).yJ none).swap
   refine aP ?_
   refine tJ (()) ?_ ?_ ?_
   ·exact (Sub.nil _)
   ·exact (Sub.cons rfl (Sub.cons rfl (Sub.nil _)))
   ·(try dsimp only)
    first | done | exact Yq
theorem II (c : Nat) (hB : ∀ g ∈ xJ G N, ∀ e ∈ g, EB e) (hL : ∀ g ∈ xJ G N, g.length ≤ 16384) : Iter prog w0 (.func (.func 217) #[] #[.pointer (some ⟨c, 0, none⟩)]) (xu c G N G.length) (xJ G N).length
  (fun k vs A => ∃ u, ∃ fs : List cO, fs.map cO.says = (xJ G N).getD k [] ∧ vs = [u] ∧ A = Eh u fs) := by
 intro l J X w hy H
 refine ⟨217, [], [.pointer (some ⟨c, 0, none⟩)], _, _, rfl, func217, rfl, rfl, ?_⟩
 obtain ⟨v, hs, OX, Yb, H1⟩ := H.comm.IG
 have V5 := OX
 rw [List.take_of_length_le (by simp), ← QV] at OX
 have hlen : hs.length = (xJ G N).length := by have := congrArg List.length OX; simpa using this
 obtain ⟨a, d, hv, hc1, hc2, _⟩ := (H1.swap.aT).form
 subst hv
 simp only [List.nil_append, List.cons_append]
 refine gB func217 ntmps217 ?_
 dsimp only [bf, Nat.reduceAdd]
 refine ay (ah (dV underlying176 rfl (H1).get.2 rfl (aX (iM ((H1.f2).aT) underlying176 rfl) (aN rfl (aA (aj (bC ?_)))))))
 refine iw [(0, _), (5, _), (6, _)] (fun (k : Nat) => [(7, .int .i64 (k : Int))]) (fun (k : Nat) W => k ≤ hs.length ∧ aB w0 W (dB c (.cells #[.slice a hs.length d] 176 (0, 0)) • Row 35 1 (.slice a hs.length d) hs.length (hs.map (·.1)) • mO hs • J k)) (fun (k : Nat) => hs.length - k) (0) (Sub.cons rfl (Sub.cons rfl (Sub.cons rfl (Sub.nil _)))) (Sub.cons rfl (Sub.nil _)) ⟨by omega, H1⟩ ?_
 rintro k w1 ⟨hk, HL⟩
 dsimp only [List.cons_append, List.nil_append]
 refine ay (ah (aX (eu rfl rfl) (aA (aj (ay (aO rfl (fun h1 => ?_) (fun h1 => ?_)))))))
 ·(try simp only [aH] at h1)
  try (exfalso; first | contradiction | omega)
  all_goals
   refine aP (aj (ay (bC (ay (ah ?_)))))
   obtain ⟨bv, ov, cv, ev⟩ := Rd.BL ((HL.f2).aT) (by omega)
   cases ev
   refine aX (iV underlying176 sizeOf35 rfl rfl (by omega)) ?_
   refine aX (nU (dK underlying35 rfl) rfl (by first | exact Rd.MI ((HL.f2).aT) (by omega) | exact Rd.Vb ((HL.f2).aT) (by omega) | exact Rd.UJ ((HL.f2).aT) (by omega))) ?_
   have hkl : k < hs.length := by omega
   rw [show (hs.map (·.1)).getD k undef = (hs.getD k default).1 from by simp [List.getD_eq_getElem?_getD, hkl]]
   obtain ⟨gl, uq, hg⟩ : ∃ gl uq, hs.getD k default = (gl, uq) := ⟨_, _, rfl⟩
   rw [hg]
   have Yj := HL.f3
   have Yk := Yj.Gj hkl hg
   have hge : uq.map cO.says = (xJ G N).getD k [] := by
    rw [← OX]
    have h9 : (hs.map (fun g => g.2.map cO.says)).getD k [] = (hs.getD k default).2.map cO.says := by simp [List.getD_eq_getElem?_getD, hkl]
    rw [h9, hg]
   have hgm : (xJ G N).getD k [] ∈ xJ G N := sH (by omega)
   have hBg := IB hge (hB _ hgm)
   have VW : uq.length ≤ 16384 := by
    have h7 := congrArg List.length hge
    rw [List.length_map] at h7
    have := hL _ hgm
    omega
   refine aV rfl (aA (aj (ay (ah (aN rfl (aN rfl (bZ rfl func187 (rH Yk hBg VW) ?_)))))))
   rintro u4 w4 ⟨fs4, Yr, H4⟩
   obtain ⟨es2, rfl⟩ : ∃ q, q = fs4 := ⟨_, rfl⟩
   have hes2 := Yr
   have Hd5 := H4.f3.right
   refine jh (Gh rfl rfl (hy k (by omega) _ _ ⟨_, es2, hes2.trans hge, rfl, rfl⟩ (mO hs • Row 35 1 (.slice (some ⟨bv, ov, none⟩) hs.length d) hs.length (hs.map (·.1)) • dB c (.cells #[.slice (some ⟨bv, ov, none⟩) hs.length d] 176 (0, 0))) _ (Hd5.of_eq (by unfold Eh; ac_rfl))).bool) ?_
   rintro _ w6 ⟨t, rfl, ht1, ht2⟩
   refine aX (kF rfl) (aA (aj (aO rfl (fun h2 => ?_) (fun h2 => ?_))))
   ·(try simp only [aH] at h2)
    try (exfalso; first | contradiction | omega)
    all_goals
     have HX := ht2 (by simpa using h2)
     refine aJ (aW (aK (aK (aW (fZ (.inl rfl) results217 ?_)))))
     exact .inr (aB.comm (aB.Dp (u := .slice (some ⟨bv, ov, none⟩) hs.length d) V5 (HX.of_eq (by unfold yI; ac_rfl))))
   ·(try simp only [aH] at h2)
    try (exfalso; first | contradiction | omega)
    all_goals
     have HN : aB w0 w6 (dB c (.cells #[.slice (some ⟨bv, ov, none⟩) hs.length d] 176 (0, 0)) • Row 35 1 (.slice (some ⟨bv, ov, none⟩) hs.length d) hs.length (hs.map (·.1)) • mO hs • J (k + 1)) := by
      have h9 := ht1 (by simpa using h2)
      exact h9.of_eq (by ac_rfl)
     refine aP (aQ (aj (ah (aX (gy rfl rfl (by omega)) (aN rfl (aA ?_))))))
     refine fE (k + 1) ?_ ?_ ?_ ?_
     ·exact (Sub.cons rfl (Sub.nil _))
     ·exact (Sub.cons rfl (Sub.cons rfl (Sub.cons rfl (Sub.nil _))))
     ·(try dsimp only)
      first | done | exact ⟨by omega, HN.f3.f3.f3⟩
     ·(try dsimp only); omega
 ·(try simp only [aH] at h1)
  try (exfalso; first | contradiction | omega)
  all_goals
   refine eX (aY (aY (bU (fZ (.inr rfl) results217 ?_))))
   obtain rfl : k = hs.length := by omega
   rw [← hlen]
   exact .inl (aB.comm (aB.Dp (u := .slice a hs.length d) V5 (HL.of_eq (by unfold yI; ac_rfl))))
end
end Go.Proofs.YtgndbccogcofjaaGreatDoor
end
section
namespace Go.Proofs.YtgndbccogcofjaaGreatDoor
open Go.RowKit
def Ah (P : Int → Nat) (U : Int → List (List dX)) : List Int → HP
  | [] => emp
  | k :: D => dR (P k) (U k) [] 0 • Ah P U D
def IJ (D : List Int) (P : Int → Nat) : Int → Option Value := fun k => if k ∈ D then some (.pointer (some ⟨P k, 0, none⟩)) else none
theorem sV {P : Int → Nat} {U : Int → List (List dX)} {k : Int} : ∀ {D : List Int}, k ∈ D → Ah P U D = (dR (P k) (U k) [] 0 • Ah P U (D.erase k))
  | x :: D, h => by
    by_cases e : x = k
    · subst e; rw [List.erase_cons_head]; rfl
    · rw [List.erase_cons_tail (by simpa using e)]
      have hk : k ∈ D := (List.mem_cons.1 h).resolve_left (Ne.symm e)
      show (dR (P x) (U x) [] 0 • Ah P U D) = _
      rw [sV hk]
      show (dR (P x) (U x) [] 0 • dR (P k) (U k) [] 0 • Ah P U (D.erase k)) = (dR (P k) (U k) [] 0 • (dR (P x) (U x) [] 0 • Ah P U (D.erase k)))
      ac_rfl
theorem wJ {P P' : Int → Nat} {U U' : Int → List (List dX)} : ∀ {D : List Int}, (∀ k ∈ D, P k = P' k ∧ U k = U' k) → Ah P U D = Ah P' U' D
  | [], _ => rfl
  | x :: D, h => by
    show (dR (P x) (U x) [] 0 • Ah P U D) = (dR (P' x) (U' x) [] 0 • Ah P' U' D)
    rw [(h x (by simp)).1, (h x (by simp)).2, wJ fun k hk => h k (List.mem_cons_of_mem _ hk)]
def sW (b : Nat) (U : Int → List (List dX)) : HP := rD fun (x : List Int × (Int → Nat)) => fact (x.1.Nodup ∧ ∀ k, k ∉ x.1 → U k = []) • eP oM b (IJ x.1 x.2) • Ah x.2 U x.1
def EU (b : Nat) (U : Int → List (List dX)) (k : Int) (p : Nat) : HP := rD fun (x : List Int × (Int → Nat)) => fact (x.1.Nodup ∧ (∀ k, k ∉ x.1 → U k = []) ∧ k ∈ x.1 ∧ x.2 k = p) • eP oM b (IJ x.1 x.2) • Ah x.2 U (x.1.erase k)
section
variable {w0 w : World} {F : HP} {b p : Nat} {k : Int} {U : Int → List (List dX)} {G : List (List dX)}
theorem aB.V6 (H : aB w0 w (sW b U • F)) : ∃ D P, (D : List Int).Nodup ∧ (∀ k, k ∉ D → U k = []) ∧ aB w0 w (eP oM b (IJ D P) • Ah P U D • F) := by
  obtain ⟨⟨D, P⟩, H⟩ := H.lK
  obtain ⟨⟨h1, h2⟩, H⟩ := H.flat.fact
  exact ⟨D, P, h1, h2, H.flat⟩
theorem aB.Bd {D : List Int} {P : Int → Nat} (h1 : D.Nodup) (h2 : ∀ k, k ∉ D → U k = []) (H : aB w0 w (eP oM b (IJ D P) • Ah P U D • F)) : aB w0 w (sW b U • F) :=
  aB.gY (D, P) (aB.deep (aB.jF ⟨h1, h2⟩ H.deep))
theorem aB.SB {D : List Int} {P : Int → Nat} (h1 : D.Nodup) (h2 : ∀ k, k ∉ D → U k = []) (hk : k ∈ D) (H : aB w0 w (eP oM b (IJ D P) • Ah P U D • F)) : aB w0 w (dR (P k) (U k) [] 0 • EU b U k (P k) • F) := by
  have H1 : aB w0 w ((eP oM b (IJ D P) • Ah P U (D.erase k)) • dR (P k) (U k) [] 0 • F) := H.of_eq (by rw [sV hk]; ac_rfl)
  have H2 : aB w0 w (EU b U k (P k) • dR (P k) (U k) [] 0 • F) := aB.gY (D, P) (aB.deep (aB.jF ⟨h1, h2, hk, rfl⟩ H1))
  exact H2.swap
theorem aB.sZ (H : aB w0 w (EU b U k p • dR p G [] 0 • F)) : aB w0 w (sW b (wS U k G) • F) := by
  obtain ⟨⟨D, P⟩, H⟩ := H.lK
  obtain ⟨⟨h1, h2, hk, hp⟩, H⟩ := H.flat.fact
  dsimp only at h1 h2 hk hp H
  subst hp
  refine aB.Bd (D := D) (P := P) h1 (fun x hx => ?_) ?_
  · rw [sS _ _ (by rintro rfl; exact hx hk)]; exact h2 x hx
  · rw [sV (U := wS U k G) hk, fD, wJ (P' := P) (U' := U) fun x hx => ⟨rfl, sS _ _ (by rintro rfl; exact (List.Nodup.not_mem_erase h1) hx)⟩]
    exact H.of_eq (by ac_rfl)
end
def vU (t : Int → Option ByteArray) : Int → Option Value := fun k => (t k).map .string
def JY (pb pr pw pt pm : Nat) (c : kY) : HP := dL pb c.L c.pt c.mark • bY pr c.E c.at_ • dB pw (.cells #[.int .i64 c.place, .map (some pt)] 85 (0, 0)) • eP oM pt (vU c.tx) • sW pm c.un
def Lm (pb pr pw pm : Nat) (c : kY) : List Value := [.pointer (some ⟨pb, 0, none⟩), .pointer (some ⟨pr, 0, none⟩), .pointer (some ⟨pw, 0, none⟩), .map (some pm), .int .i64 c.mode, .bool c.over, .int .i64 c.last, .int .i64 c.fr, .int .i64 c.to, .int .i64 c.res, .bool c.run]
def qy (dP : Bool) (c : kY) (u : List Value) : HP := if dP = true then rD fun (x : Nat × Nat × Nat × Nat × Nat) => fact (u = Lm x.1 x.2.1 x.2.2.1 x.2.2.2.2 c) • JY x.1 x.2.1 x.2.2.1 x.2.2.2.1 x.2.2.2.2 c else (fact ((u.all fun x => x.oneCell') = true))
def JZ (hl : List oQ) (c : kY) : Prop := 0 ≤ c.place ∧ c.place ≤ hl.length ∧ (∀ k t, c.tx k = some t → t.size ≤ 16384)
def uD (e : dX) : Prop := 0 ≤ e.1 ∧ 0 < e.2.1.length + e.2.2.length ∧ e.2.1.length ≤ 1024 ∧ e.2.2.length ≤ 1024
def jV (s : bg) : Prop := JZ s.hl s.c ∧ (s.dP = true → JZ s.hl s.was ∧ dS (s.was.un s.was.place) [] ≤ 16384 ∧ ∀ k, ∀ g ∈ s.was.un k, ∀ e ∈ g, uD e) ∧ (-1 ≤ s.arg ∧ s.arg ≤ 1000000) ∧ (∀ e ∈ s.put, uD e) ∧ dS s.here s.put ≤ 16384 ∧ (∀ k, ∀ g ∈ s.c.un k, ∀ e ∈ g, uD e)
structure EdP where
  pb : Nat
  pr : Nat
  pw : Nat
  pt : Nat
  pm : Nat
  ph : Nat
  bl : Nat
  pv : Value
  es : List cO
  u0 : Value
  u1 : Value
  u2 : Value
  u3 : Value
  u4 : Value
  u5 : Value
  u6 : Value
  u7 : Value
  u8 : Value
  u9 : Value
  ua : Value
def Xn (e : Nat) (s : bg) (M : Nat → HP) : HP := rD fun (x : EdP) => fact (jV s ∧ x.es.map cO.says = s.put) •
  dB e (.cells (.pointer (some ⟨x.pb, 0, none⟩) :: .pointer (some ⟨x.pr, 0, none⟩) :: .pointer (some ⟨x.pw, 0, none⟩) :: .map (some x.pm) :: .int .i64 s.c.mode :: .bool s.c.over :: .int .i64 s.c.last :: .int .i64 s.c.fr :: .int .i64 s.c.to :: .int .i64 s.c.res :: .bool s.c.run :: .pointer (some ⟨x.ph, 0, none⟩) :: .pointer (some ⟨x.bl, 0, none⟩) :: .bool s.given :: .bool s.minus :: .int .i64 s.arg :: .bool s.dP :: x.u0 :: x.u1 :: x.u2 :: x.u3 :: x.u4 :: x.u5 :: x.u6 :: x.u7 :: x.u8 :: x.u9 :: x.ua :: .int .i64 s.cls :: .bool s.killed :: .bool s.jX :: .bool s.argues :: .bool s.whole :: x.pv :: []).toArray 37 (0, 0)) •
  dL x.pb s.c.L s.c.pt s.c.mark • bY x.pr s.c.E s.c.at_ • dB x.pw (.cells #[.int .i64 s.c.place, .map (some x.pt)] 85 (0, 0)) • eP oM x.pt (vU s.c.tx) • M x.pm •
  fC x.ph s.hl s.base s.most • dB x.bl (.cells #[.int .i64 s.vT] 106 (0, 0)) • Row 101 3 x.pv s.put.length (x.es.flatMap cO.enc) • je x.es • qy s.dP s.was [x.u0, x.u1, x.u2, x.u3, x.u4, x.u5, x.u6, x.u7, x.u8, x.u9, x.ua]
def dw (e : Nat) (s : bg) : HP := Xn e s fun pm => sW pm s.c.un
def Yt (e : Nat) (s : bg) (p : Nat) : HP := Xn e s fun pm => EU pm s.c.un s.c.place p
section
variable {w0 w : World} {F : HP} {e : Nat} {s : bg} {M : Nat → HP}
theorem aB.edG (H : aB w0 w (Xn e s M • F)) : ∃ pb pr pw pt pm ph bl pv es u0 u1 u2 u3 u4 u5 u6 u7 u8 u9 ua, jV s ∧ es.map cO.says = s.put ∧ es.length = s.put.length ∧ aB w0 w (
  dB e (.cells (.pointer (some ⟨pb, 0, none⟩) :: .pointer (some ⟨pr, 0, none⟩) :: .pointer (some ⟨pw, 0, none⟩) :: .map (some pm) :: .int .i64 s.c.mode :: .bool s.c.over :: .int .i64 s.c.last :: .int .i64 s.c.fr :: .int .i64 s.c.to :: .int .i64 s.c.res :: .bool s.c.run :: .pointer (some ⟨ph, 0, none⟩) :: .pointer (some ⟨bl, 0, none⟩) :: .bool s.given :: .bool s.minus :: .int .i64 s.arg :: .bool s.dP :: u0 :: u1 :: u2 :: u3 :: u4 :: u5 :: u6 :: u7 :: u8 :: u9 :: ua :: .int .i64 s.cls :: .bool s.killed :: .bool s.jX :: .bool s.argues :: .bool s.whole :: pv :: []).toArray 37 (0, 0)) •
  dL pb s.c.L s.c.pt s.c.mark • bY pr s.c.E s.c.at_ • dB pw (.cells #[.int .i64 s.c.place, .map (some pt)] 85 (0, 0)) • eP oM pt (vU s.c.tx) • M pm •
  fC ph s.hl s.base s.most • dB bl (.cells #[.int .i64 s.vT] 106 (0, 0)) • Row 101 3 pv s.put.length (es.flatMap cO.enc) • je es • qy s.dP s.was [u0, u1, u2, u3, u4, u5, u6, u7, u8, u9, ua] • F) := by
  obtain ⟨⟨pb, pr, pw, pt, pm, ph, bl, pv, es, u0, u1, u2, u3, u4, u5, u6, u7, u8, u9, ua⟩, H⟩ := H.lK
  obtain ⟨⟨h1, h2⟩, H⟩ := H.flat.fact
  refine ⟨pb, pr, pw, pt, pm, ph, bl, pv, es, u0, u1, u2, u3, u4, u5, u6, u7, u8, u9, ua, h1, h2, ?_, ?_⟩
  · rw [← h2]; simp
  · dsimp only at H
    exact H.of_eq (by simp only [bT])
theorem aB.Uk {pb pr pw pt pm ph bl : Nat} {pv : Value} {es : List cO} {u0 u1 u2 u3 u4 u5 u6 u7 u8 u9 ua : Value} (h1 : jV s) (h2 : es.map cO.says = s.put) (H : aB w0 w (
  dB e (.cells (.pointer (some ⟨pb, 0, none⟩) :: .pointer (some ⟨pr, 0, none⟩) :: .pointer (some ⟨pw, 0, none⟩) :: .map (some pm) :: .int .i64 s.c.mode :: .bool s.c.over :: .int .i64 s.c.last :: .int .i64 s.c.fr :: .int .i64 s.c.to :: .int .i64 s.c.res :: .bool s.c.run :: .pointer (some ⟨ph, 0, none⟩) :: .pointer (some ⟨bl, 0, none⟩) :: .bool s.given :: .bool s.minus :: .int .i64 s.arg :: .bool s.dP :: u0 :: u1 :: u2 :: u3 :: u4 :: u5 :: u6 :: u7 :: u8 :: u9 :: ua :: .int .i64 s.cls :: .bool s.killed :: .bool s.jX :: .bool s.argues :: .bool s.whole :: pv :: []).toArray 37 (0, 0)) •
  dL pb s.c.L s.c.pt s.c.mark • bY pr s.c.E s.c.at_ • dB pw (.cells #[.int .i64 s.c.place, .map (some pt)] 85 (0, 0)) • eP oM pt (vU s.c.tx) • M pm •
  fC ph s.hl s.base s.most • dB bl (.cells #[.int .i64 s.vT] 106 (0, 0)) • Row 101 3 pv s.put.length (es.flatMap cO.enc) • je es • qy s.dP s.was [u0, u1, u2, u3, u4, u5, u6, u7, u8, u9, ua] • F)) : aB w0 w (Xn e s M • F) :=
  aB.gY ⟨pb, pr, pw, pt, pm, ph, bl, pv, es, u0, u1, u2, u3, u4, u5, u6, u7, u8, u9, ua⟩ (aB.deep (aB.jF ⟨h1, h2⟩ (H.of_eq (by simp only [bT]))))
theorem aB.dG {pb pr pw pt pm ph bl : Nat} {pv : Value} {es : List cO} {u0 u1 u2 u3 u4 u5 u6 u7 u8 u9 ua : Value} (h1 : jV s) (h2 : es.map cO.says = s.put) (H : aB w0 w (
  dB e (.cells (.pointer (some ⟨pb, 0, none⟩) :: .pointer (some ⟨pr, 0, none⟩) :: .pointer (some ⟨pw, 0, none⟩) :: .map (some pm) :: .int .i64 s.c.mode :: .bool s.c.over :: .int .i64 s.c.last :: .int .i64 s.c.fr :: .int .i64 s.c.to :: .int .i64 s.c.res :: .bool s.c.run :: .pointer (some ⟨ph, 0, none⟩) :: .pointer (some ⟨bl, 0, none⟩) :: .bool s.given :: .bool s.minus :: .int .i64 s.arg :: .bool s.dP :: u0 :: u1 :: u2 :: u3 :: u4 :: u5 :: u6 :: u7 :: u8 :: u9 :: ua :: .int .i64 s.cls :: .bool s.killed :: .bool s.jX :: .bool s.argues :: .bool s.whole :: pv :: []).toArray 37 (0, 0)) •
  dL pb s.c.L s.c.pt s.c.mark • bY pr s.c.E s.c.at_ • dB pw (.cells #[.int .i64 s.c.place, .map (some pt)] 85 (0, 0)) • eP oM pt (vU s.c.tx) • sW pm s.c.un •
  fC ph s.hl s.base s.most • dB bl (.cells #[.int .i64 s.vT] 106 (0, 0)) • Row 101 3 pv s.put.length (es.flatMap cO.enc) • je es • qy s.dP s.was [u0, u1, u2, u3, u4, u5, u6, u7, u8, u9, ua] • F)) : aB w0 w (dw e s • F) := aB.Uk (M := fun pm => sW pm s.c.un) h1 h2 H
theorem aB.Bf (H : aB w0 w (dw e s • F)) : ∃ pb pr pw pt pm ph bl pv es u0 u1 u2 u3 u4 u5 u6 u7 u8 u9 ua, jV s ∧ es.map cO.says = s.put ∧ es.length = s.put.length ∧ aB w0 w (
  dB e (.cells (.pointer (some ⟨pb, 0, none⟩) :: .pointer (some ⟨pr, 0, none⟩) :: .pointer (some ⟨pw, 0, none⟩) :: .map (some pm) :: .int .i64 s.c.mode :: .bool s.c.over :: .int .i64 s.c.last :: .int .i64 s.c.fr :: .int .i64 s.c.to :: .int .i64 s.c.res :: .bool s.c.run :: .pointer (some ⟨ph, 0, none⟩) :: .pointer (some ⟨bl, 0, none⟩) :: .bool s.given :: .bool s.minus :: .int .i64 s.arg :: .bool s.dP :: u0 :: u1 :: u2 :: u3 :: u4 :: u5 :: u6 :: u7 :: u8 :: u9 :: ua :: .int .i64 s.cls :: .bool s.killed :: .bool s.jX :: .bool s.argues :: .bool s.whole :: pv :: []).toArray 37 (0, 0)) •
  dL pb s.c.L s.c.pt s.c.mark • bY pr s.c.E s.c.at_ • dB pw (.cells #[.int .i64 s.c.place, .map (some pt)] 85 (0, 0)) • eP oM pt (vU s.c.tx) • sW pm s.c.un •
  fC ph s.hl s.base s.most • dB bl (.cells #[.int .i64 s.vT] 106 (0, 0)) • Row 101 3 pv s.put.length (es.flatMap cO.enc) • je es • qy s.dP s.was [u0, u1, u2, u3, u4, u5, u6, u7, u8, u9, ua] • F) := H.edG
end
end Go.Proofs.YtgndbccogcofjaaGreatDoor
end
section
namespace Go.Proofs.YtgndbccogcofjaaGreatDoor
open Go.RowKit
open _root_.Go.Proofs.Tryz
def IK {β : Type} (f : Int → Option β) (S : List Int) : Int → Option β := fun k => if k ∈ S then f k else none
theorem O7 {β : Type} (f : Int → Option β) : IK f [] = fun _ => none := by funext k; simp [IK]
theorem Nk {β : Type} {f : Int → Option β} {S : List Int} {a : Int} {u : β} (h : f a = some u) : IK f (S ++ [a]) = upd (IK f S) a u := by
  funext k
  unfold IK upd
  by_cases hk : k = a
  · subst hk; simp [h]
  · simp [hk]
theorem O8 {β : Type} {f : Int → Option β} {S : List Int} (h : ∀ a u, f a = some u → a ∈ S) : IK f S = f := by
  funext k
  unfold IK
  split
  · rfl
  · rename_i hk
    cases hf : f k with
    | none => rfl
    | some u => exact absurd (h k u hf) hk
theorem Lp (P : Int → Nat) : IJ [] P = fun _ => none := by funext k; simp [IJ]
theorem O9 {D : List Int} {P : Int → Nat} {a : Int} {u : Value} (h : IJ D P a = some u) : a ∈ D ∧ u = .pointer (some ⟨P a, 0, none⟩) := by
  unfold IJ at h
  split at h
  · rename_i hm; exact ⟨hm, by cases h; rfl⟩
  · cases h
theorem IL {S : List Int} {P : Int → Nat} {a : Int} {q : Nat} (h : a ∉ S) : IJ (S ++ [a]) (wS P a q) = upd (IJ S P) a (.pointer (some ⟨q, 0, none⟩)) := by
  funext k
  unfold IJ upd wS
  by_cases hk : k = a
  · subst hk; simp
  · simp [hk]
theorem Dt {P : Int → Nat} {U : Int → List (List dX)} {a : Int} : ∀ {S : List Int}, Ah P U (S ++ [a]) = (Ah P U S • dR (P a) (U a) [] 0)
  | [] => by show (dR (P a) (U a) [] 0 • emp) = (emp • dR (P a) (U a) [] 0); rw [pF, jm]
  | x :: S => by
    show (dR (P x) (U x) [] 0 • Ah P U (S ++ [a])) = ((dR (P x) (U x) [] 0 • Ah P U S) • dR (P a) (U a) [] 0)
    rw [Dt, bT]
theorem EW {α : Type} {o : Option α} (h : ¬ o.isSome = true) : o = none := by cases o <;> simp_all
theorem Du {S : List Int} {a : Int} (h : S.Nodup) (ha : a ∉ S) : (S ++ [a]).Nodup := by
  rw [List.nodup_append]
  exact ⟨h, by simp, by intro x hx y hy; rw [List.mem_singleton.1 hy]; rintro rfl; exact ha hx⟩
section
variable {w0 w : World} {F : HP} {pb pr pw pt pm : Nat} {c : kY}
theorem IQ (H : aB w0 w (dL pb c.L c.pt c.mark • bY pr c.E c.at_ • dB pw (.cells #[.int .i64 c.place, .map (some pt)] 85 (0, 0)) • eP oM pt (vU c.tx) • sW pm c.un • F)) :
  fO prog 44 #[.agg #[.pointer (some ⟨pb, 0, none⟩), .pointer (some ⟨pr, 0, none⟩), .pointer (some ⟨pw, 0, none⟩), .map (some pm), .int .i64 c.mode, .bool c.over, .int .i64 c.last, .int .i64 c.fr, .int .i64 c.to, .int .i64 c.res, .bool c.run]] w fun v w' =>
   ∃ qb qr qw qt qm, v = .agg #[.pointer (some ⟨qb, 0, none⟩), .pointer (some ⟨qr, 0, none⟩), .pointer (some ⟨qw, 0, none⟩), .map (some qm), .int .i64 c.mode, .bool c.over, .int .i64 c.last, .int .i64 c.fr, .int .i64 c.to, .int .i64 c.res, .bool c.run] ∧
    aB w0 w' (dL qb c.L c.pt c.mark • bY qr c.E c.at_ • dB qw (.cells #[.int .i64 c.place, .map (some qt)] 85 (0, 0)) • eP oM qt (vU c.tx) • sW qm c.un •
     dL pb c.L c.pt c.mark • bY pr c.E c.at_ • dB pw (.cells #[.int .i64 c.place, .map (some pt)] 85 (0, 0)) • eP oM pt (vU c.tx) • sW pm c.un • F) := by
 refine gB func44 ntmps44 ?_
 dsimp only [bf, Nat.reduceAdd]
 refine ay (ah (jh (iL (l := [_, _, _, _, _, _, _, _, _, _, _]) H rfl rfl) ?_))
 rintro _ w1 ⟨b1, rfl, H1⟩
 refine jh (gJ (l := [_, _, _, _, _, _, _, _, _, _, _]) H1 zeroValue32 rfl) ?_
 rintro _ w2 ⟨b2, rfl, H2⟩
 refine aA (aj (ay ?_))
 have Oz := H2.drew
 have sJ := aB.kp (Oz.f7.f7.f7.f7.f7.f7.f7)
 refine yZ [1, 4] sJ rfl (gV 0 rfl sJ 0 underlying32 rfl sizeOf27 rfl (jk 1 rfl sJ (fun W hW => jP underlying27 rfl ((Kp.h hW).f2).get.2 rfl) (gV 3 rfl sJ 1 underlying32 rfl sizeOf28 rfl (jk 4 rfl sJ (fun W hW => jP underlying28 rfl ((Kp.h hW).f2).get.2 rfl) (kE 2 rfl (wW rfl func115 (D6 Oz.f3)) ?_)))))
 rintro _ w3 ⟨q3, rfl, H3⟩
 have Ef := aB.kp (H3.f8.f8.f8.f8.f8.f8.f8.f8)
 refine dQ Ef (fun W hW => (Kp.h hW).right.f7.f7.f7.f7.f5.f7.f7) ?_
 refine gV 6 rfl Ef 0 underlying32 rfl sizeOf27 rfl (kE 5 rfl (wW rfl func99 (CP H3.f5)) ?_)
 rintro _ w4 ⟨pc4, rfl, H4⟩
 have wR := aB.kp (H4.f9.f9.f9.f9.f9.f9.f9.f9.f9)
 refine fQ wR (by kernel_rfl) ?_
 refine fU 7 rfl (by kernel_rfl) (aS 0 (l' := [_, _, _, _, _, _, _, _, _, _, _]) H4.f6 sizeOf27 rfl rfl (by first | rfl | assumption) rfl rfl) ?_
 rintro _ w5 H5
 have JR := aB.kp (H5.f9.f9.f9.f9.f9.f9.f9.f9.f9)
 refine fQ JR (by kernel_rfl) ?_
 refine gV 8 rfl JR 1 underlying32 rfl sizeOf28 rfl ?_
 refine fU 9 rfl (by kernel_rfl) (aS 1 (l' := [_, _, _, _, _, _, _, _, _, _, _]) H5 sizeOf28 rfl rfl (by first | rfl | assumption) rfl rfl) ?_
 rintro _ w6 H6
 have IU := aB.kp (H6.f9.f9.f9.f9.f9.f9.f9.f9.f9)
 refine fQ IU (by kernel_rfl) ?_
 refine pO (aj (ay (ah (bF 2 underlying32 rfl sizeOf29 rfl (dV underlying29 rfl (H6).get.2 rfl (bP rfl (bF 0 underlying85 rfl sizeOf3 rfl (dV underlying3 rfl (H6.f7).get.2 rfl (jh (ig (wQ .i64) H6) ?_)))))))))
 rintro _ w7 ⟨b7, rfl, H7⟩
 refine aX (eF (pl := #[(0, 1), (1, 1)]) (#[_, _]) underlying85 zeroValue85 (fun w => by kernel_rfl) rfl (rfl)) (jh (iL (l := [_, _]) H7 rfl rfl) ?_)
 rintro _ w8 ⟨b8, rfl, H8⟩
 refine aV rfl (aA (aj (ay (ay (ah (bF 2 underlying32 rfl sizeOf29 rfl (dV underlying29 rfl (H8.f3).get.2 rfl (bP rfl (bF 1 underlying85 rfl sizeOf83 rfl (dV underlying83 rfl (H8.f9).get.2 rfl (jh (Aa H8.f10 underlying83 rfl) ?_)))))))))))
 rintro _ w9 ⟨it9, mi, rfl, H9⟩
 refine aA (aj (bC ?_))
 obtain ⟨R10, Yu, Yv⟩ := aB.Es (H9.f2.f3.f3)
 have HX0 := Yv
 rw [← O7 (vU c.tx)] at HX0
 refine iw [(1, _), (2, _), (3, _), (30, _)] (fun (⟨S, n⟩ : List Int × Nat) => []) (fun (⟨S, n⟩ : List Int × Nat) W => aB w0 W (yB oM pt it9 (vU c.tx) S n • eP oM b7 (IK (vU c.tx) S) • dB b8 (.cells #[.int .i64 c.place, .map (some b7)] 85 (0, 0)) • R10)) (fun (⟨S, n⟩ : List Int × Nat) => n) (([], _)) (Sub.cons rfl (Sub.cons rfl (Sub.cons rfl (Sub.cons rfl (Sub.nil _))))) (Sub.nil _) HX0 ?_
 rintro ⟨S, n⟩ Hz HL
 dsimp only [List.cons_append, List.nil_append]
 refine ay (ah (jh (BX HL rfl) ?_))
 rintro _ w12 ⟨ox, Sx, mx, rfl, V7, wP⟩
 refine aX (RV rfl) (aA (aj (ay (aO rfl (fun h1 => ?_) (fun h1 => ?_)))))
 ·(try simp only [aH] at h1)
  try (exfalso; first | contradiction | omega)
  all_goals
   obtain ⟨⟨a, u⟩, rfl⟩ := Option.isSome_iff_exists.1 h1
   obtain ⟨ha, hns, hlt, rfl⟩ := V7
   refine aP (aj (bC (ay (ah ?_))))
   refine aX (KT (wP) (by assumption) rfl) ?_
   refine AZ rfl rfl (AZ rfl rfl (aV rfl (aV rfl (aA (aj (ah (aN rfl (bP rfl (bF 1 underlying85 rfl sizeOf83 rfl (dV underlying83 rfl (wP.f3).get.2 rfl (aN rfl (aN rfl (aG (qU wP.f2 underlying83 underlying3 rfl rfl rfl) ?_)))))))))))))
   rintro _ MN uO
   refine aA (aQ ?_)
   have hres := Nk (S := S) ha
   refine fE ((S ++ [a], mx)) ?_ ?_ ?_ ?_
   ·exact (Sub.nil _)
   ·exact (Sub.cons rfl (Sub.cons rfl (Sub.cons rfl (Sub.cons rfl (Sub.nil _)))))
   ·(try dsimp only)
    first | done | exact (by rw [hres]; exact uO.f3.f2.f3)
   ·(try dsimp only); omega
 ·(try simp only [aH] at h1)
  try (exfalso; first | contradiction | omega)
  all_goals
   obtain rfl := EW (o := ox) (by simp [h1])
   obtain ⟨rfl, rfl, hall⟩ := V7
   refine eX (aY ?_)
   have HX := wP.f3.f2.f3
   rw [O8 hall] at HX
   have Yw := HX.f2
   have Yx := Yw.EI
   subst Yu
   refine aY (bU (aj (ay (ah (aN rfl (bF 2 underlying32 rfl sizeOf29 rfl (aG (aS 2 (l' := [_, _, _, _, _, _, _, _, _, _, _]) Yx.f4 sizeOf29 rfl rfl (by first | rfl | assumption) rfl rfl) ?_)))))))
   rintro _ w16 rZ
   refine aA (aj (ay (ah (jh (ig (wQ .i64) rZ) ?_))))
   rintro _ RX ⟨b17, rfl, Ac⟩
   refine aV rfl (aA (aj (ay (ay ?_))))
   obtain ⟨D, P, hD1, hD2, HU⟩ := (Ac.f12).V6
   refine ah (bF 3 underlying32 rfl sizeOf30 rfl (dV underlying30 rfl (HU.f4).get.2 rfl (jh (Aa HU underlying30 rfl) ?_)))
   rintro _ Qc ⟨Yy, mi, rfl, zY⟩
   refine aA (aj (bC ?_))
   obtain ⟨R19, Yz, YA⟩ := aB.Es (zY.f3.f3.f3)
   have HX0 := YA
   rw [← Lp P] at HX0
   refine iw [(1, _), (2, _), (6, _), (47, _)] (fun (⟨S, n, P2⟩ : List Int × Nat × (Int → Nat)) => []) (fun (⟨S, n, P2⟩ : List Int × Nat × (Int → Nat)) W => S.Nodup ∧ aB w0 W (yB oM pm Yy (IJ D P) S n • Ah P c.un D • eP oM b17 (IJ S P2) • Ah P2 c.un S • R19)) (fun (⟨S, n, P2⟩ : List Int × Nat × (Int → Nat)) => n) (([], _, P)) (Sub.cons rfl (Sub.cons rfl (Sub.cons rfl (Sub.cons rfl (Sub.nil _))))) (Sub.nil _) ⟨List.nodup_nil, (HX0).of_eq (by show _ = (_ • _ • _ • emp • _); rw [jm])⟩ ?_
   rintro ⟨S, n, P2⟩ Qd ⟨hS, HL⟩
   dsimp only [List.cons_append, List.nil_append]
   refine ay (ah (jh (BX HL rfl) ?_))
   rintro _ QC ⟨ox, Sx, mx, rfl, V7, oN⟩
   refine aX (RV rfl) (aA (aj (ay (aO rfl (fun h2 => ?_) (fun h2 => ?_)))))
   ·(try simp only [aH] at h2)
    try (exfalso; first | contradiction | omega)
    all_goals
     obtain ⟨⟨a, u⟩, rfl⟩ := Option.isSome_iff_exists.1 h2
     obtain ⟨ha, hns, hlt, rfl⟩ := V7
     obtain ⟨hmem, rfl⟩ := O9 ha
     have HF := oN.f2
     rw [sV hmem] at HF
     have HF2 := HF.flat
     refine aP (aj (bC (ay (ah ?_))))
     refine aX (KT (HF2.f3) (by assumption) rfl) ?_
     refine AZ rfl rfl (AZ rfl rfl (aV rfl (aV rfl (aA (aj (ah (aN rfl (aN rfl (aN rfl (bZ rfl func116 (Di HF2) ?_))))))))))
     rintro _ UK ⟨q22, rfl, BQ⟩
     refine aG (qU BQ.f5 underlying30 underlying3 rfl rfl rfl) ?_
     rintro _ Qg yc
     refine aA (aQ ?_)
     have HQ := yc.f2.f6.f3.f5.f5.f6
     have hu1 : Ah (wS P2 a q22) c.un (S ++ [a]) = (Ah P2 c.un S • dR q22 (c.un a) [] 0) := by
      rw [Dt, fD, wJ (P' := P2) (U' := c.un) fun x hx => ⟨sS _ _ (by rintro rfl; exact hns hx), rfl⟩]
     refine fE ((S ++ [a], mx, wS P2 a q22)) ?_ ?_ ?_ ?_
     ·exact (Sub.nil _)
     ·exact (Sub.cons rfl (Sub.cons rfl (Sub.cons rfl (Sub.cons rfl (Sub.nil _)))))
     ·(try dsimp only)
      first | done | exact ⟨Du hS hns, HQ.of_eq (by rw [sV hmem, hu1, IL hns]; ac_rfl)⟩
     ·(try dsimp only); omega
   ·(try simp only [aH] at h2)
    try (exfalso; first | contradiction | omega)
    all_goals
     obtain rfl := EW (o := ox) (by simp [h2])
     obtain ⟨rfl, rfl, hall⟩ := V7
     refine eX (aY ?_)
     have YB := oN
     have YC := YB.EI
     subst Yz
     have YD := YC.f2.f2
     have YE := aB.Bd hD1 hD2 YD
     have hnS : ∀ k, k ∉ Sx → c.un k = [] := fun k hk => hD2 k fun hkD => hk (hall k _ (if_pos hkD))
     have YF := YE.f3.f3
     have YG := aB.Bd hS hnS YF
     refine aY (bU (aj (ay (ah (aN rfl (bF 3 underlying32 rfl sizeOf30 rfl (aG (aS 3 (l' := [_, _, _, _, _, _, _, _, _, _, _]) YG.f3 sizeOf30 rfl rfl (by first | rfl | assumption) rfl rfl) ?_)))))))
     rintro _ XJ Oq
     refine aA (aj (ay (ah (aX (bW underlying32 rfl sizeOf32 rfl rfl (Oq).get.2) (aG (cZ 0 (l' := [_, _, _, _, _, _, _, _, _, _, _]) (us := [_, _, _, _, _, _, _, _, _, _, _]) Oq.f11 sizeOf32 rfl rfl rfl (aC (by first | rfl | assumption) (aC (by first | rfl | assumption) (aC (by first | rfl | assumption) (aC (by first | rfl | assumption) (aC (by first | rfl | assumption) (aC (by first | rfl | assumption) (aC (by first | rfl | assumption) (aC (by first | rfl | assumption) (aC (by first | rfl | assumption) (aC (by first | rfl | assumption) (aC (by first | rfl | assumption) bV))))))))))) rfl rfl) ?_)))))
     rintro _ Vy Jy
     refine aA (aj (aJ ?_))
     refine tK (.inl rfl) (Ob results44 rfl underlying32 rfl (by rw [show (prog.info? 32).map (·.size) = some 11 from by kernel_rfl]; rfl) (Jy).get.2) ?_
     exact ⟨_, _, _, _, _, rfl, Jy.right.right.f2.f3.f10.f8.f10.f6.f7.f8.f9.f10⟩
end
end Go.Proofs.YtgndbccogcofjaaGreatDoor
end
