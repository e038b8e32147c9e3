import Derived.Test.YtgndbccogcofjaaGreatDoorZ2
import Derived.Test.YtgndbccogcofjaaGreatDoorZ10
import Derived.Test.YtgndbccogcofjaaGreatDoorZ9
import Derived.Test.YtgndbccogcofjaaGreatDoorZ11
import Derived.Test.YtgndbccogcofjaaGreatDoorZ6
set_option linter.unusedSimpArgs false
set_option linter.unusedVariables false
/- Texts of mine, joined, their names in short: Hist EdM UGroups Ed. -/
section
namespace Go.Proofs.YtgndbccogcofjaaGreatDoor
open Go.RowKit
open _root_.Go.Proofs.Tryz
abbrev qO := ByteArray × Int
def nJ (x : qO) : List Value := [.string x.1, .int .i64 x.2]
theorem Am (x : qO) : (nJ x).length = 2 := rfl
def Yj (x : qO) : Prop := x.1.size ≤ 16384 ∧ 0 ≤ x.2
def Yk (hl : List qO) (base most : Int) : Prop := hl.length ≤ 4096 ∧ 1 ≤ base ∧ base ≤ 4611686018427387904 ∧ (hl.length : Int) ≤ most ∧ most ≤ 4096 ∧ ∀ x ∈ hl, Yj x
def fU (p : Nat) (hl : List qO) (base most : Int) : HP := tN fun (v : Value) => fact (Yk hl base most) • dH p (.cells #[v, .int .i64 base, .int .i64 most] 132 (0, 0)) • Row 128 2 v hl.length (hl.flatMap nJ)
section
variable {P : Program} {L : List (Nat × Value)} {w0 w : World} {F : HP} {ty : TypeId} {p : Nat} {hl : List qO} {base most : Int} {v : Value}
theorem D5 {t e sz : Nat} {z : Value} (H : aB w0 w F) (ht : P.underlying t = some (.slice e)) (hs : ∀ w, (sizeOf e).run P w = .ok sz w) (hz : ∀ w, (zeroValue e).run P w = .ok z w) :
    rM P L (.buildSlice t 0 #[]) ty w fun v w' => aB w0 w' (Row e sz v 0 [] • F) := by
  refine oW (v := .slice (some ⟨w.heap.size, 0, none⟩) 0 0) (w' := w.alloc (.cells #[] e)) ?_ ?_
  · intro ρ hρ d pos mJ g
    simp only [execOp, Instr.buildSlice, Sem.run_bind, run_underlying ht, Result.andThen_ok, hs]
    have h0 : Array.map (fun (_ : Nat) => (default : Value)) (Array.range 0) = #[] := Array.eq_empty_of_size_eq_zero (by simp)
    simp [Instr.fill, newRow, h0]
  · exact (H.alloc _).right.jf _
theorem aB.hist (H : aB w0 w (fU p hl base most • F)) : ∃ v, Yk hl base most ∧ aB w0 w (dH p (.cells #[v, .int .i64 base, .int .i64 most] 132 (0, 0)) • Row 128 2 v hl.length (hl.flatMap nJ) • F) := by
  obtain ⟨v, H⟩ := H.ng
  obtain ⟨h, H⟩ := H.flat.fact
  exact ⟨v, h, H.flat⟩
theorem aB.vV (h : Yk hl base most) (H : aB w0 w (dH p (.cells #[v, .int .i64 base, .int .i64 most] 132 (0, 0)) • Row 128 2 v hl.length (hl.flatMap nJ) • F)) : aB w0 w (fU p hl base most • F) :=
  aB.iH v (aB.deep (aB.kE h H.deep))
theorem Nw {hl : List qO} : ∀ x ∈ hl.flatMap nJ, x.oneCell' = true := by
  intro x hx
  obtain ⟨e, _, hx⟩ := List.mem_flatMap.1 hx
  simp [nJ] at hx
  rcases hx with rfl | rfl <;> rfl
theorem TK : (prog.info? 128).map (fun i => (i.zero, i.size, i.bytes)) = some (some (.agg #[.string .empty, .int .i64 0]), 2, 24) := by kernel_rfl
theorem zH (H : aB w0 w F) (hr : KF w0 F 2 v hl.length (hl.flatMap nJ)) (hb : hl.length ≤ 1099511627776) :
    fG prog 118 #[v] w fun v' w' => aB w0 w' (Row 128 2 v' hl.length (hl.flatMap nJ) • F) := by
  obtain ⟨hlen, a, c, rfl, h1, h2, h3⟩ := hr w H
  refine gG func118 ntmps118 ?_
  dsimp only [bf, Nat.reduceAdd]
  refine ay (ah (aV rfl (aA (aj (ay (ay (ah (aN rfl (aU (wG underlying47 rfl rfl) (aA (aj (aP rfl (fun h1 => ?_) (fun h1 => ?_)))))))))))))
  · (try simp only [aF] at h1)
    try (exfalso; first | contradiction | omega)
    all_goals
      refine ay (ah (aV rfl (aA (aj (aI (aK (aH (.inl rfl) results118 rfl ?_)))))))
      obtain rfl : a = none := by simpa using h1
      obtain rfl : hl = [] := by
        cases hl with
        | nil => rfl
        | cons x l => obtain ⟨b, o, e, _⟩ := h3 (by simp); cases e
      exact H.jf none
  · (try simp only [aF] at h1)
    try (exfalso; first | contradiction | omega)
    all_goals
      refine aO (aj (ay (ah (iy (D5 H underlying47 sizeOf128 zeroValue128) ?_))))
      rintro _ w1 H1
      refine aN rfl (iy (iR H1 underlying47 TK rfl rfl rfl (hr.under _ H1) Nw (by omega) (by omega)) ?_)
      rintro _ w2 H2
      refine aV rfl (aA (aj (aI (aH (.inl rfl) results118 rfl ?_))))
      exact H2.of_eq (by rw [Nat.zero_add, List.nil_append])
theorem ug (H : aB w0 w (fU p hl base most • F)) : fG prog 117 #[.pointer (some ⟨p, 0, none⟩)] w fun v w' => v = .bool false ∧ w = w' := by
 refine gG func117 ntmps117 ?_
 dsimp only [bf, Nat.reduceAdd]
 refine ay (ah (aV rfl (aA (aj (ay ?_)))))
 obtain ⟨V4, yQ, D6⟩ := (H).hist
 refine ah (aN rfl (aU (iq underlying33 rfl rfl) (eP rfl (fun h1 => ?_) (fun h1 => ?_))))
 ·(try simp only [aF] at h1)
  try (exfalso; first | contradiction | omega)
  all_goals
   refine bD (bD (bD (bD (bD (bD (fP rfl rfl (aV rfl (aA (aj (aI (aH (.inl rfl) results117 rfl ?_)))))))))))
   exact ⟨by rw [show (base == 0) = false from by rw [beq_eq_false_iff_ne]; have := yQ.2.1; omega], rfl⟩
 ·(try simp only [aF] at h1)
  try (exfalso; first | contradiction | omega)
  all_goals
   refine aX (aN rfl (aX (bM rfl (aX (bG 0 underlying132 rfl sizeOf130 rfl (aX (bG 1 underlying130 rfl sizeOf2 rfl (aX (dX underlying2 rfl (D6).get.2 rfl (aX (aU (fE rfl rfl) (dL rfl rfl (aV rfl (aA (aj (aI (aH (.inl rfl) results117 rfl ?_)))))))))))))))))
   exact ⟨by rw [show (base == 0) = false from by rw [beq_eq_false_iff_ne]; have := yQ.2.1; omega], rfl⟩
theorem Io {n : Int} (H : aB w0 w F) (hn : 0 ≤ n ∧ n ≤ 4096) : fG prog 107 #[.int .i64 n] w fun v w' => ∃ p, v = .tuple #[.pointer (some ⟨p, 0, none⟩), .int .i64 0] ∧ aB w0 w' (fU p [] 1 n • F) := by
 refine gG func107 ntmps107 ?_
 dsimp only [bf, Nat.reduceAdd]
 refine ay (ah (aV rfl (aV rfl (aA (aj (ay (ay (ah (aN rfl (aU (eF rfl rfl) (eP rfl (fun h1 => ?_) (fun h1 => ?_))))))))))))
 ·(try simp only [aF] at h1)
  try (exfalso; first | contradiction | omega)
  all_goals
   refine bD (bD (fP rfl rfl (aA (aj (wK (ay (ah (aV rfl (aV rfl (aA (aj (aI (aK (mW (.inl rfl) results107 rfl rfl ?_))))))))))))))
   exact ⟨_, rfl, aB.vV (v := .slice none 0 0) ⟨by simp, by decide, by decide, by simp; omega, by omega, by simp⟩ ((H.jf none).swap)⟩
 ·(try simp only [aF] at h1)
  try (exfalso; first | contradiction | omega)
  all_goals
   refine aX (aN rfl (aX (aU (dF rfl rfl) (dL rfl rfl (aA (aj (aP rfl (fun h2 => ?_) (fun h2 => ?_))))))))
   ·(try simp only [aF] at h2)
    try (exfalso; first | contradiction | omega)
    all_goals
     refine ay (ah (aV rfl (aV rfl (aA (aj (aI (aK (mW (.inl rfl) results107 rfl rfl ?_))))))))
     exact ⟨_, rfl, aB.vV (v := .slice none 0 0) ⟨by simp, by decide, by decide, by simp; omega, by omega, by simp⟩ ((H.jf none).swap)⟩
   ·(try simp only [aF] at h2)
    try (exfalso; first | contradiction | omega)
    all_goals
     refine aO (aj (ay (ah (aN rfl (aU (fF (pl := #[(0, 1), (1, 1), (2, 1)]) (#[_, _, _]) underlying130 zeroValue130 (fun w => by kernel_rfl) rfl (rfl)) (aU (fF (pl := #[(0, 3)]) (#[_, _, _]) underlying132 zeroValue132 (fun w => by kernel_rfl) rfl (rfl)) (iy (jo (l := [_, _, _]) H rfl rfl) ?_)))))))
     rintro _ w1 ⟨b1, rfl, H1⟩
     refine aV rfl (aV rfl (aA (aj (aI (mW (.inl rfl) results107 rfl rfl ?_)))))
     exact ⟨_, rfl, aB.vV (v := .slice none 0 0) ⟨by simp, by decide, by decide, by simp; omega, by omega, by simp⟩ ((H1.jf none).swap)⟩
theorem og (H : aB w0 w (fU p hl base most • F)) : fG prog 102 #[.pointer (some ⟨p, 0, none⟩)] w fun v w' => v = .int .i64 hl.length ∧ aB w0 w' (fU p hl base most • F) := by
 refine gG func102 ntmps102 ?_
 dsimp only [bf, Nat.reduceAdd]
 refine ay (ah (aV rfl (aA (aj (ay (ay (ah (aN rfl (bW rfl func117 (ug H) ?_)))))))))
 rintro _ _ ⟨rfl, rfl⟩
 refine aA (aj (mO (aO (aj (ay ?_)))))
 obtain ⟨V4, yQ, D6⟩ := (H).hist
 refine ah (aN rfl (bM rfl (bG 0 underlying132 rfl sizeOf130 rfl (bG 0 underlying130 rfl sizeOf47 rfl (dX underlying47 rfl (D6).get.2 rfl (aU (jg ((D6.f2).aS) underlying47 rfl) (aV rfl (aA (aj (aI (aH (.inl rfl) results102 rfl ?_)))))))))))
 have Qm := D6.f2.f2
 have Qn := aB.vV yQ Qm
 exact ⟨rfl, Qn⟩
theorem oh (H : aB w0 w (fU p hl base most • F)) : fG prog 45 #[.pointer (some ⟨p, 0, none⟩)] w fun v w' => ∃ q, v = .pointer (some ⟨q, 0, none⟩) ∧ aB w0 w' (fU q hl base most • fU p hl base most • F) := by
 refine gG func45 ntmps45 ?_
 dsimp only [bf, Nat.reduceAdd]
 refine ay (ah (aV rfl (aA (aj (ay (ay (ah (aN rfl (bW rfl func117 (ug H) ?_)))))))))
 rintro _ _ ⟨rfl, rfl⟩
 refine aA (aj (mO (aO (aj (ay ?_)))))
 obtain ⟨V4, yQ, D6⟩ := (H).hist
 have hcl := yQ.1
 have JH := D6.drew
 have jk := aB.kp (JH.f2.f2)
 refine yI [4, 10, 15] jk rfl (iD 0 rfl jk rfl (jS 1 rfl jk rfl (gV 2 rfl jk 0 underlying132 rfl sizeOf130 rfl (gV 3 rfl jk 0 underlying130 rfl sizeOf47 rfl (jB 4 rfl jk (fun W hW => jR underlying47 rfl ((Kp.h hW)).get.2 rfl) (iD 6 rfl jk rfl (jS 7 rfl jk rfl (gV 8 rfl jk 0 underlying132 rfl sizeOf130 rfl (gV 9 rfl jk 1 underlying130 rfl sizeOf2 rfl (jB 10 rfl jk (fun W hW => jR underlying2 rfl ((Kp.h hW)).get.2 rfl) (iD 11 rfl jk rfl (jS 12 rfl jk rfl (gV 13 rfl jk 0 underlying132 rfl sizeOf130 rfl (gV 14 rfl jk 2 underlying130 rfl sizeOf3 rfl (jB 15 rfl jk (fun W hW => jR underlying3 rfl ((Kp.h hW)).get.2 rfl) (kQ 5 rfl (wJ rfl func118 (zH JH (fun W HW => (HW.f2).aS) (by omega))) ?_))))))))))))))))
 rintro u3 w3 H3
 have Fg := aB.kp (H3.f3.f3.f3)
 refine dZ Fg (fun W hW => (Kp.h hW).right.f2.f2) ?_
 obtain ⟨au3, cu3, ZQ, -⟩ := ((H3).aS).form
 subst ZQ
 refine jr 16 rfl Fg (fun _ => fF (pl := #[(0, 1), (1, 1), (2, 1)]) (#[_, _, _]) underlying130 zeroValue130 (fun w => by kernel_rfl) rfl (rfl)) (jr 17 rfl Fg (fun _ => fF (pl := #[(0, 3)]) (#[_, _, _]) underlying132 zeroValue132 (fun w => by kernel_rfl) rfl (rfl)) (kQ 18 rfl (jo (l := [_, _, _]) H3 rfl rfl) ?_))
 rintro _ w4 ⟨b4, rfl, H4⟩
 have xW := aB.kp (H4.f4.f4.f4.f4)
 refine gB xW (by kernel_rfl) ?_
 refine jr 19 rfl xW (fun _ => eH rfl) (qQ (aj (aI (aH (.inl rfl) results45 rfl ?_))))
 have V5 := H4.f4.f4
 have V6 := aB.vV yQ V5
 exact ⟨_, rfl, aB.vV yQ V6.f3.f3⟩
end
end Go.Proofs.YtgndbccogcofjaaGreatDoor
end
section
namespace Go.Proofs.YtgndbccogcofjaaGreatDoor
open Go.RowKit
def xX {β : Type} (f : Int → β) (a : Int) (v : β) : Int → β := fun x => if x = a then v else f x
theorem gq {β : Type} (f : Int → β) (a : Int) (v : β) : xX f a v a = v := if_pos rfl
theorem uQ {β : Type} (f : Int → β) {a x : Int} (v : β) (h : x ≠ a) : xX f a v x = f x := if_neg h
theorem TL {β : Type} (f : Int → β) (a : Int) : xX f a (f a) = f := by funext x; unfold xX; split <;> simp_all
structure lY where
  L : List Int
  pt : Int
  mark : Int
  E : List (List Int)
  at_ : Nat
  place : Int
  tx : Int → Option ByteArray
  un : Int → List (List fB)
  mode : Int
  over : Bool
  last : Int
  fr : Int
  to : Int
  res : Int
  run : Bool
structure bC where
  c : lY
  hl : List qO
  base : Int
  most : Int
  wX : Int
  given : Bool
  minus : Bool
  arg : Int
  dU : Bool
  was : lY
  cls : Int
  killed : Bool
  lu : Bool
  argues : Bool
  whole : Bool
  put : List fB
def ZX (hl : List qO) (k : Int) : qO := if 0 ≤ k ∧ k < hl.length then hl.getD k.toNat default else (.empty, 0)
def Ip (hl : List qO) (k : Int) : ByteArray := (ZX hl k).1
def D7 (hl : List qO) (tx : Int → Option ByteArray) (k : Int) : ByteArray := (tx k).getD (Ip hl k)
def TM (hl : List qO) (tx : Int → Option ByteArray) (place : Int) (k : Nat) : Bool := decide ((k : Int) ≠ place) && !((D7 hl tx k).toList == (Ip hl k).toList)
def TN (hl : List qO) (tx : Int → Option ByteArray) (place : Int) (n : Nat) : List (Int × ByteArray) := ((List.range n).filter (TM hl tx place)).map fun (k : Nat) => ((k : Int), D7 hl tx k)
def TP (hl : List qO) (tx : Int → Option ByteArray) (place : Int) : List (Int × ByteArray) := TN hl tx place hl.length ++ (if place ≠ hl.length then [((hl.length : Int), D7 hl tx hl.length)] else [])
def QE (G : List (List fB)) (dU : Bool) (put : List fB) (typed run : Bool) : Int := (G.length : Int) + if dU && !put.isEmpty && !(typed && run) then 1 else 0
namespace bC
variable (s : bC)
def here : List (List fB) := s.c.un s.c.place
def kW (G : List (List fB)) : bC := { s with c := { s.c with un := xX s.c.un s.c.place G } }
def uS : Int := if s.dU then 0 else 1
def Ap : Int := if s.dU then 1 else 0
def aW : bC := if s.dU then s else { s with dU := true, was := s.c, cls := 0, killed := false, lu := false, argues := false, whole := true, put := [] }
def jq (on : Bool) : List (List fB) := if s.put = [] then s.here else if on then (match s.here.getLast? with | some g => s.here.dropLast ++ [g ++ s.put] | none => [s.put]) else s.here ++ [s.put]
def dQ (on : Bool) : bC := if s.put = [] then s else { s.kW (s.jq on) with put := [] }
def uT : bC := { s with given := false, minus := false, arg := -1 }
def mG (err : Int) : Int := if s.dU then err else 1
def uh : bC := { s.uT with dU := false, c := { s.was with last := 0, fr := 0, to := 0 }, wX := IntKind.i64.wrap (s.wX + 1), put := [] }
def typed : Bool := s.cls == 3 && s.whole
def fK : bC := { (if s.argues then s else s.uT) with dU := false }
def jJ : bC :=
  let t := s.fK.dQ (s.typed && s.c.run)
  let c := { t.c with run := s.typed && (!s.put.isEmpty || s.c.run), last := s.cls }
  { t with c := if s.cls ≠ 2 then { c with fr := 0, to := 0 } else c }
def iE (err : Int) : bC := if s.dU then (if err = 0 then s.jJ else s.uh) else s
def mQ (x : fB) : bC :=
  if x.2.1.length + x.2.2.length = 0 then s else
  if 16384 ≤ eY s.here s.put then { s.kW [] with put := [x], c := { (s.kW []).c with run := false } } else { s with put := s.put ++ [x] }
def iV (L : List Int) (pt mk : Int) : bC := { s with c := { s.c with L := L, pt := pt, mark := mk } }
def jF (i j : Int) (l : List Int) : Int := if s.dU then jw s.c.L i j l else 1
def iC (i j : Int) (l : List Int) : bC := if s.dU then (s.iV (mP s.c.L i j l) (nH s.c.L s.c.pt i j l) (nV s.c.L s.c.mark i j l)).mQ (pq s.c.L i j l, ku s.c.L i j l, kC s.c.L i j l) else s
def LK (l : List Int) : Int := s.jF s.c.pt s.c.pt l
def zI (l : List Int) : bC := s.iC s.c.pt s.c.pt l
def Aq (l : List Int) : Int := if s.c.over then min (s.c.pt + l.length) s.c.L.length else s.c.pt
def QF (l : List Int) : Int := s.jF s.c.pt (s.Aq l) l
def yB (l : List Int) : bC := if s.dU then (let t := s.iC s.c.pt (s.Aq l) l; if s.QF l = 0 ∧ s.cls = 0 then { t with cls := 3 } else t) else s
def way (back : Bool) : Int := if s.c.last = 1 ∨ s.killed = true then (if back then 2 else 1) else 0
def kJ (i j : Int) : Prop := i < 0 ∨ s.c.L.length < i ∨ j < i ∨ s.c.L.length < j
instance (i j : Int) : Decidable (s.kJ i j) := by unfold kJ; infer_instance
def cut (i j : Int) : List Int := (s.c.L.drop i.toNat).take (j.toNat - i.toNat)
def kX (i j : Int) (back : Bool) : Int × List (List Int) × Nat := wS s.c.E s.c.at_ (s.way back) (s.cut i j)
def lC (i j : Int) (back : Bool) : Int := if s.dU then (if s.kJ i j then 70 else (s.kX i j back).1) else 1
def zJ (E : List (List Int)) (a : Nat) : bC := { s with c := { s.c with E := E, at_ := a } }
def lZ (i j : Int) (back : Bool) : bC := if s.lC i j back = 0 then { s.zJ (s.kX i j back).2.1 (s.kX i j back).2.2 with killed := true, cls := 1 } else s
def Gh (i j : Int) (back : Bool) : Int := if s.lC i j back = 0 then (s.lZ i j back).jF i j [] else s.lC i j back
def qV (i j : Int) (back : Bool) : bC := if s.lC i j back = 0 then (s.lZ i j back).iC i j [] else s
def top : List Int := s.c.E.getD s.c.at_ []
def yC : Int := if s.dU then (if s.c.E.length = 0 then 6 else s.LK s.top) else 1
def sZ : bC :=
  if s.yC = 0 then
    let t := s.zI s.top
    { t with lu := true, cls := 2, c := { t.c with mark := Xg t.c.L t.c.mark s.c.pt, fr := s.c.pt, to := s.c.pt + s.top.length } }
  else s
def V7 (n : Int) : List Int := s.c.E.getD (Ag s.c.E.length s.c.at_ n) []
def ZY (n : Int) : Int := if s.dU then (if s.c.last ≠ 2 ∨ s.lu = true then 6 else if s.c.E.length = 0 then 6 else s.jF s.c.fr s.c.to (s.V7 n)) else 1
def abV (n : Int) : bC :=
  if s.ZY n = 0 then
    let t := s.iC s.c.fr s.c.to (s.V7 n)
    { t with lu := true, cls := 2, c := { t.c with E := s.c.E, at_ := Ag s.c.E.length s.c.at_ n, fr := s.c.fr, to := s.c.fr + (s.V7 n).length } }
  else s
def kills : List (List Int) := s.c.E.drop s.c.at_ ++ s.c.E.take s.c.at_
def nK (x : Int) : Int := if s.dU then VI s.c.L.length x else 1
def kN (x : Int) : bC := if s.dU then s.iV s.c.L (RY s.c.L.length s.c.pt x) s.c.mark else s
def abE (x : Int) : Int := if s.dU then ZE s.c.L x else 1
def abF (x : Int) : bC := if s.dU then s.iV s.c.L s.c.pt (Xg s.c.L s.c.mark x) else s
def abG : Int := if s.dU then swE s.c.mark else 1
def abH : bC := if s.dU then s.iV s.c.L (swP s.c.pt s.c.mark) (swM s.c.pt s.c.mark) else s
def Z4 (b : List Int × Int × Int) (x : fB) : List Int × Int × Int := (ZL b.1 x.1 x.2.1 x.2.2, ZM b.1 b.2.1 x.1 x.2.1 x.2.2, ZN b.1 b.2.2 x.1 x.2.1 x.2.2)
def apps (b : List Int × Int × Int) (l : List fB) : List Int × Int × Int := l.foldl Z4 b
def UY (l : List fB) : bC := let b := apps (s.c.L, s.c.pt, s.c.mark) l; s.iV b.1 b.2.1 b.2.2
def Ny : bC := { s with whole := false, c := { s.c with run := false } }
def abI : bC := if s.dU then (let t := s.dQ false; if t.here = [] then t else ((t.kW t.here.dropLast).UY ((t.here.getLastD []).reverse.map DV)).Ny) else s
def QA : Int := if s.dU then (if (s.dQ false).here = [] then 6 else 0) else 1
def abW : bC := if s.dU then (let t := s.dQ false; if t.here = [] then t else ((t.kW []).UY (t.here.flatten.reverse.map DV)).Ny) else s
def V8 (d : Int) : Int := if s.dU then (if d < 0 ∨ 9 < d then 1 else 0) else 1
def Z5 (d : Int) : bC := if s.V8 d = 0 then { s with given := true, argues := true, arg := min (max s.arg 0 * 10 + d) 1000000 } else s
def abX : bC := if s.dU then { s with given := true, argues := true, minus := !s.minus } else s
def Z7 (n : Int) : Int := if s.dU then (if 1000000 < n ∨ n < -1000000 then 1 else 0) else 1
def abY (n : Int) : bC := if s.Z7 n = 0 then { s with given := true, argues := true, minus := decide (n < 0), arg := max n (-n) } else s
def count : Int := if s.given then (let n := if s.arg < 0 then 1 else s.arg; if s.minus then -n else n) else 1
def Yl (m : Int) : Int := if s.dU then (if m < 0 ∨ 2 < m then 1 else 0) else 1
def abJ (m : Int) : bC := if s.Yl m = 0 then { s with c := { s.c with mode := m } } else s
def abK (b : Bool) : bC := if s.dU then { s with c := { s.c with over := b } } else s
def Z8 (r : Int) : Int := if s.dU then (if r < 1 ∨ 3 < r then 1 else 0) else 1
def abZ (r : Int) : bC := if s.Z8 r = 0 then { s with c := { s.c with res := r } } else s
def first (k : Int) : ByteArray := Ip s.hl k
def stands (k : Int) : ByteArray := (s.c.tx k).getD (s.first k)
def Z9 : Int := QE s.here s.dU s.put s.typed s.c.run
def saved : List (Int × ByteArray) := TP s.hl s.c.tx s.c.place
def abL : Int := if s.dU then s.was.last else s.c.last
def frS : Int := if s.dU then s.was.fr else s.c.fr
def toS : Int := if s.dU then s.was.to else s.c.to
end bC
def lY.fresh (l : List Int) (E : List (List Int)) (a : Nat) (place mode : Int) : lY := ⟨l, l.length, -1, E, a, place, fun _ => none, fun _ => [], mode, false, 0, 0, 0, 0, false⟩
def bC.start (s : bC) (hl : List qO) (base most : Int) (l : List Int) : bC := { s with c := lY.fresh l s.c.E s.c.at_ hl.length s.c.mode, hl := hl, base := base, most := most, given := false, minus := false, arg := -1 }
def bC.new (hl : List qO) (base most : Int) : bC :=
  let c := lY.fresh [] [] 0 hl.length 0
  { c := c, hl := hl, base := base, most := most, wX := 0, given := false, minus := false, arg := -1, dU := false, was := c, cls := 0, killed := false, lu := false, argues := false, whole := false, put := [] }
end Go.Proofs.YtgndbccogcofjaaGreatDoor
end
section
namespace Go.Proofs.YtgndbccogcofjaaGreatDoor
open Go.RowKit
open _root_.Go.Proofs.Tryz
def yD (c : Nat) (G : List (List fB)) (N : List fB) (k : Nat) : HP := tN fun (x : Value × List (Value × List dD)) => fact (x.2.map (fun g => g.2.map dD.says) = Il N ++ G.reverse.take k) • dH c (.cells #[x.1] 176 (0, 0)) • zC x.1 x.2
theorem rev_succ {G : List (List fB)} {k : Nat} (hk : k < G.length) : G.reverse.take (k + 1) = G.reverse.take k ++ [G.getD (G.length - (k + 1)) []] := by
  rw [List.take_succ_eq_append_getElem (by simpa using hk)]
  congr 1
  rw [List.getElem_reverse, List.getD_eq_getElem?_getD, List.getElem?_eq_getElem (by omega)]
  have e : G.length - 1 - k = G.length - (k + 1) := by omega
  simp only [Option.getD_some, e]
section
variable {w0 w : World} {F : HP} {p c k : Nat} {G : List (List fB)} {N : List fB} {op : Int} {v u : Value} {es fs : List dD} {gs hs : List (Value × List dD)}
theorem aB.JK (H : aB w0 w (yD c G N k • F)) : ∃ u hs, hs.map (fun g => g.2.map dD.says) = Il N ++ G.reverse.take k ∧ hs.length ≤ G.length + 1 ∧ aB w0 w (dH c (.cells #[u] 176 (0, 0)) • Row 35 1 u hs.length (hs.map (·.1)) • nZ hs • F) := by
  obtain ⟨⟨u, hs⟩, H⟩ := H.ng
  obtain ⟨h, H⟩ := H.flat.fact
  refine ⟨u, hs, h, ?_, (H.flat.swap.VL).f3⟩
  have := congrArg List.length h
  have := QD N
  simp only [List.length_map, List.length_append, List.length_take, List.length_reverse] at *
  omega
theorem aB.D8 (h : hs.map (fun g => g.2.map dD.says) = Il N ++ G.reverse.take k) (H : aB w0 w (dH c (.cells #[u] 176 (0, 0)) • zC u hs • F)) : aB w0 w (yD c G N k • F) :=
  aB.iH (u, hs) (aB.deep (aB.kE h H.deep))
theorem OM (H : aB w0 w F) (hv : v.oneCell' = true) : fG prog 216 #[v] w fun v' w' => ∃ b, v' = .func (.func 239) #[] #[.pointer (some ⟨b, 0, none⟩)] ∧ aB w0 w' (dH b (.cells #[v] 176 (0, 0)) • F) := by
 refine gG func216 ntmps216 ?_
 dsimp only [bf, Nat.reduceAdd]
 refine ay (ah (iy (jo (l := [_]) H rfl (by first | rfl | exact Ad (by first | rfl | assumption))) ?_))
 rintro _ w1 ⟨b1, rfl, H1⟩
 refine aV rfl (aA (aj (ay (ah (aU (vG rfl rfl) (aV rfl (aA (aj (aI (aH (.inl rfl) results216 rfl ?_))))))))))
 exact ⟨_, rfl, H1⟩
theorem LM (b : Nat) : Iter prog w0 (.func (.func 239) #[] #[.pointer (some ⟨b, 0, none⟩)]) (dH b (.cells #[v] 176 (0, 0)) • Row 35 1 v gs.length (gs.map (·.1)) • nZ gs) gs.length
  (fun k vs A => ∃ gl vT, gs.getD (gs.length - (k + 1)) default = (gl, vT) ∧ vs = [.int .i64 ((gs.length - (k + 1) : Nat) : Int), gl] ∧ A = zW gl vT) := by
 intro l J X w hy H
 refine ⟨239, [], [.pointer (some ⟨b, 0, none⟩)], _, _, rfl, func239, rfl, rfl, ?_⟩
 have H1 : aB w0 w (dH b (.cells #[v] 176 (0, 0)) • Row 35 1 v gs.length (gs.map (·.1)) • nZ gs • J 0) := H.of_eq (by ac_rfl)
 obtain ⟨a, c, hv, hc1, hc2, _⟩ := (H1.swap.aS).form
 subst hv
 simp only [List.nil_append, List.cons_append]
 refine gG func239 ntmps239 ?_
 dsimp only [bf, Nat.reduceAdd]
 refine ay (ah (dX underlying176 rfl (H1).get.2 rfl (aU (jg ((H1.f2).aS) underlying176 rfl) (aU (iP rfl rfl (by omega)) (aV rfl (aA (aj (bF ?_))))))))
 refine gQ [(0, _), (1, _)] (fun (k : Nat) => [(3, .int .i64 ((k : Int) - 1))]) (fun (k : Nat) W => k ≤ gs.length ∧ aB w0 W (dH b (.cells #[.slice a gs.length c] 176 (0, 0)) • Row 35 1 (.slice a gs.length c) gs.length (gs.map (·.1)) • nZ gs • J (gs.length - k))) (fun (k : Nat) => k) (gs.length) (Sub.cons rfl (Sub.cons rfl (Sub.nil _))) (Sub.cons rfl (Sub.nil _)) ⟨by omega, by rw [Nat.sub_self]; exact H1⟩ ?_
 rintro k w1 ⟨hk, HL⟩
 dsimp only [List.cons_append, List.nil_append]
 refine ay (ay (ah (aN rfl (aU (jh rfl rfl) (aA (aj (aP rfl (fun h1 => ?_) (fun h1 => ?_))))))))
 ·(try simp only [aF] at h1)
  try (exfalso; first | contradiction | omega)
  all_goals
   refine aO (aj (ay (bF (ay ?_))))
   obtain ⟨m, rfl⟩ : ∃ m, k = m + 1 := ⟨k - 1, by omega⟩
   rw [show (((m + 1 : Nat) : Int) - 1) = (m : Int) from by omega]
   have hkl : m < gs.length := by omega
   refine ah (aN rfl (aN rfl (dX underlying176 rfl (HL).get.2 rfl (aN rfl ?_))))
   obtain ⟨bv, ov, cv, ev⟩ := Rd.zn ((HL.f2).aS) (by omega)
   cases ev
   refine aU (gX underlying176 sizeOf35 rfl rfl (by omega)) ?_
   refine aU (kU (dB underlying35 rfl) rfl (by first | exact Rd.GV ((HL.f2).aS) (by omega) | exact Rd.UD ((HL.f2).aS) (by omega) | exact Rd.SK ((HL.f2).aS) (by omega))) ?_
   rw [show (gs.map (·.1)).getD m undef = (gs.getD m default).1 from by simp [List.getD_eq_getElem?_getD, hkl]]
   obtain ⟨gl, vT, hg⟩ : ∃ gl vT, gs.getD m default = (gl, vT) := ⟨_, _, rfl⟩
   rw [hg]
   have Ho2 := HL.f3
   have Hc3 := Ho2.Ij hkl hg
   refine iy (Ih rfl rfl (hy (gs.length - (m + 1)) (by omega) _ _ ⟨gl, vT, by rw [show gs.length - (gs.length - (m + 1) + 1) = m from by omega]; exact hg, by rw [show gs.length - (gs.length - (m + 1) + 1) = m from by omega], rfl⟩ (nZ gs • Row 35 1 (.slice (some ⟨bv, ov, none⟩) gs.length c) gs.length (gs.map (·.1)) • dH b (.cells #[.slice (some ⟨bv, ov, none⟩) gs.length c] 176 (0, 0))) _ (Hc3.of_eq (by ac_rfl))).bool) ?_
   rintro _ w4 ⟨t, rfl, ht1, ht2⟩
   refine aU (jY rfl) (aA (aj (aP rfl (fun h2 => ?_) (fun h2 => ?_))))
   ·(try simp only [aF] at h2)
    try (exfalso; first | contradiction | omega)
    all_goals
     have HX := ht2 (by simpa using h2)
     refine aI (aY (aK (aK (aY (gU (.inl rfl) results239 ?_)))))
     exact .inr (HX.of_eq (by ac_rfl))
   ·(try simp only [aF] at h2)
    try (exfalso; first | contradiction | omega)
    all_goals
     have HN : aB w0 w4 (dH b (.cells #[.slice (some ⟨bv, ov, none⟩) gs.length c] 176 (0, 0)) • Row 35 1 (.slice (some ⟨bv, ov, none⟩) gs.length c) gs.length (gs.map (·.1)) • nZ gs • J (gs.length - m)) := by
      have h9 := ht1 (by simpa using h2)
      rw [show gs.length - (m + 1) + 1 = gs.length - m from by omega] at h9
      exact h9.of_eq (by ac_rfl)
     refine aO (aQ (aj (ah (aN rfl (aU (iP rfl rfl (by omega)) (aV rfl (aA ?_)))))))
     refine eG (m) ?_ ?_ ?_ ?_
     ·exact (Sub.cons rfl (Sub.nil _))
     ·exact (Sub.cons rfl (Sub.cons rfl (Sub.nil _)))
     ·(try dsimp only)
      first | done | exact ⟨by omega, HN.f3.f3.f3⟩
     ·(try dsimp only); omega
 ·(try simp only [aF] at h1)
  try (exfalso; first | contradiction | omega)
  all_goals
   refine eU (aZ (aZ (bK (gU (.inr rfl) results239 ?_))))
   obtain rfl : k = 0 := by omega
   rw [Nat.sub_zero] at HL
   exact .inl (HL.of_eq (by ac_rfl))
theorem BP (H : aB w0 w (eX p G N op • F)) : fG prog 161 #[.pointer (some ⟨p, 0, none⟩)] w fun v w' => ∃ c, v = .func (.func 217) #[] #[.pointer (some ⟨c, 0, none⟩)] ∧ aB w0 w' (yD c G N G.length • eX p G N op • F) := by
 refine gG func161 ntmps161 ?_
 dsimp only [bf, Nat.reduceAdd]
 refine ay (ah (aV rfl (aA (aj (ay (ah (iy (gY (l := [_]) H zeroValue176 rfl) ?_)))))))
 rintro _ w1 ⟨b1, rfl, H1⟩
 refine aA (aj (ay (ay (ah (aN rfl (bW rfl func181 (ji H1.f2) ?_))))))
 rintro _ _ ⟨rfl, rfl⟩
 refine aU (jY rfl) ?_
 obtain ⟨wU, uP, jP, jy, jd, qR, oG, DJ, DK, Ib, lS⟩ := (H1.f2).uO
 have hLn : jy.length ≤ 16384 := by omega
 have hBn := JI oG jd.2.2.2.2.2
 refine aA (aj (aP rfl (fun h1 => ?_) (fun h => by exfalso; (try simp only [aF] at h); simp at h)))
 (try simp only [aF] at h1)
 refine MP [(0, _), (3, _)] (fun (_ : Unit) => []) (fun (_ : Unit) W => aB w0 W (yD b1 G N 0 • dH p (.cells #[wU, uP, .int .i64 op, .int .i64 (eY G N : Nat), .bool true] 180 (0, 0)) • Row 35 1 wU jP.length (jP.map (·.1)) • nZ jP • Row 101 3 uP jy.length (jy.flatMap dD.enc) • jH jy • F)) (Sub.cons rfl (Sub.cons rfl (Sub.nil _))) ?_ ?_
 ·rintro _ w4 HJ
  dsimp only [List.cons_append, List.nil_append]
  refine ay (ah (aN rfl (bM rfl (bG 0 underlying180 rfl sizeOf178 rfl (bG 0 underlying178 rfl sizeOf176 rfl (dX underlying176 rfl (HJ.f2).get.2 rfl (bW rfl func216 (OM HJ (Rd.one ((HJ.f3).aS))) ?_)))))))
  rintro _ w5 ⟨bB5, rfl, H5⟩
  refine aA (aj (bF ?_))
  obtain ⟨R6, Zb, HR6⟩ := aB.Xu (H5.f5.f5.f3.f4)
  refine vS rfl (LM bB5) (fun k => yD b1 G N k • R6) (fact False) (fun _ => fact False) (HR6.f4.f4.f4.f4.f4.f4.f4.g3.comm) (by rfl) ?_ ?_ ?_ ?_
  ·rintro l7 k VQ vs7 A7 ⟨gl, vT, hg, rfl, rfl⟩ G7 w7 H7
   try simp only [cO, jQ, qW] at H7
   refine ⟨rfl, ?_⟩
   dsimp only [Lu]
   obtain ⟨u, hs, QC, ZW, HI⟩ := (H7.f2).JK
   have hge : vT.map dD.says = G.getD (G.length - (k + 1)) [] := by
    rw [← DJ, ← qR]
    have h9 : (jP.map (fun g => g.2.map dD.says)).getD (jP.length - (k + 1)) [] = (jP.getD (jP.length - (k + 1)) default).2.map dD.says := by simp [List.getD_eq_getElem?_getD, show jP.length - (k + 1) < jP.length by omega]
    rw [h9, hg]
   have hgm : G.getD (G.length - (k + 1)) [] ∈ G := uJ (by omega)
   have hBg := JI hge (jd.2.2.2.2.1 _ hgm)
   have Yi : vT.length ≤ 16384 := by
    have h8 := jd.2.1
    unfold eY at h8
    have h7 := congrArg List.length hge
    rw [List.length_map] at h7
    have h6 := Ik hgm
    omega
   refine ah (aV rfl (aA ?_))
   refine Ls (HI.g5) ?_
   intro G8 w8 H8
   try simp only [cO] at H8
   refine bF ?_
   have Ym := H8.drew
   have QG := aB.kp (Ym.f4.f4.f4.f4)
   refine yI [0] QG rfl (jB 0 rfl QG (fun W hW => jR underlying176 rfl ((Kp.h hW)).get.2 rfl) (iD 1 rfl QG rfl (kQ 2 rfl (wJ rfl func187 (uf Ym.f4 hBg Yi)) ?_)))
   rintro u9 w9 ⟨fs9, aac, H9⟩
   obtain ⟨es2, rfl⟩ : ∃ q, q = fs9 := ⟨_, rfl⟩
   have hes2 := aac
   have Lm := aB.kp (H9.f6.f6.f6.f6.f6.f6)
   refine dZ Lm (fun W hW => (Kp.h hW).right.right.f4.f4.f4) ?_
   refine kQ 3 rfl (pG (vs := [_]) H9 underlying176 sizeOf35 zeroValue35 rfl rfl rfl (by decide) (aC (by first | rfl | exact Rd.one ((H9).aS)) cZ)) ?_
   rintro l10 w10 oZ
   have Gf := aB.kp (oZ.f7.f7.f7.f7.f7.f7.f7)
   refine dZ Gf (fun W hW => (Kp.h hW).right.f6.f6.f6.f6.f6.f6) ?_
   refine kQ 4 rfl (iR oZ.f6 underlying176 (show (prog.info? 35).map (fun i => (i.zero, i.size, i.bytes)) = some (some (.slice none 0 0), 1, 24) by kernel_rfl) rfl rfl rfl ((oZ).aS) (aC (by first | rfl | exact Rd.one ((oZ.f2).aS)) cZ) (by omega) (by omega)) ?_
   rintro l11 KG yt
   have LG := yt.f2.right
   have zF := aB.kp (LG.f6.f6.f6.f6.f6.f6)
   refine gB zF (by kernel_rfl) ?_
   refine gI 5 rfl (by kernel_rfl) (aT 0 (l' := [_]) LG.f5 sizeOf176 rfl rfl (by first | rfl | exact Rd.one ((LG).aS)) rfl rfl) ?_
   rintro _ Po xE
   have yw := aB.kp (xE.f6.f6.f6.f6.f6.f6)
   refine gB yw (by kernel_rfl) ?_
   refine qQ (aQ ?_)
   refine DT ?_
   have X := aB.rQ (es := es2) (xE.f5.right.f5.f3.f5.f5).deep
   exact (aB.D8 (hs := hs ++ [(u9, es2)]) (by rw [List.map_append, QC, rev_succ (by omega), ← hge, ← hes2, List.append_assoc]; rfl) (aB.uN X.swap).swap).deep
  ·rintro D14 MX yK
   have Jw := yK.ed
   try simp only [cO, jQ, qW] at Jw
   have VR := Jw.MO
   subst Zb
   refine aQ (aj (ay (ah (aU (vG rfl rfl) (aV rfl (aA (aj (aI ?_))))))))
   refine Cb (.inl rfl) (VR) (fun Pq yu => ?_)
   refine ⟨_, Vp results161 rfl, ?_⟩
   have hgl : yD b1 G N jP.length = yD b1 G N G.length := by rw [DJ]
   rw [hgl] at yu
   have aad := yu.f7.f7.f5.f5.f7
   have aae := aB.jU jd qR oG rfl aad
   exact ⟨_, rfl, aae.f2.right.f2⟩
  ·rintro D w H; exact absurd H.swap.fact.1 id
  ·rintro id D w H; exact absurd H.swap.fact.1 fun h => h
 ·skip
  refine ay (ah (aN rfl (bM rfl (bG 0 underlying180 rfl sizeOf178 rfl (bG 1 underlying178 rfl sizeOf35 rfl (dX underlying35 rfl (lS).get.2 rfl (aU (jg ((lS.f4).aS) underlying35 rfl) (aU (dF rfl rfl) (aA (aj (aP rfl (fun h2 => ?_) (fun h2 => ?_))))))))))))
  ·(try simp only [aF] at h2)
   have hN : Il N = [N] := if_neg (by rintro rfl; exact absurd DK (by simp only [List.length_nil]; omega))
   have UZ := lS.drew
   have yR := aB.kp (UZ.f6.f6.f6.f6.f6.f6)
   refine yI [0, 5] yR rfl (jB 0 rfl yR (fun W hW => jR underlying176 rfl ((Kp.h hW).f6).get.2 rfl) (iD 1 rfl yR rfl (jS 2 rfl yR rfl (gV 3 rfl yR 0 underlying180 rfl sizeOf178 rfl (gV 4 rfl yR 1 underlying178 rfl sizeOf35 rfl (jB 5 rfl yR (fun W hW => jR underlying35 rfl ((Kp.h hW)).get.2 rfl) (kQ 6 rfl (wJ rfl func187 (wW UZ.f5.f5 hBn hLn)) ?_)))))))
   rintro u19 Tc ⟨aaf, Yn, BJ⟩
   obtain ⟨es1, rfl⟩ : ∃ q, q = aaf := ⟨_, rfl⟩
   have hes1 := Yn
   have QH := aB.kp (BJ.f8.f8.f8.f8.f8.f8.f8.f8)
   refine dZ QH (fun W hW => (Kp.h hW).right.right.f6.f3.f3.f6.f6.f6) ?_
   refine kQ 7 rfl (pG (vs := [_]) BJ underlying176 sizeOf35 zeroValue35 rfl rfl rfl (by decide) (aC (by first | rfl | exact Rd.one ((BJ).aS)) cZ)) ?_
   rintro Zc SN yh
   have Bv := aB.kp (yh.f9.f9.f9.f9.f9.f9.f9.f9.f9)
   refine dZ Bv (fun W hW => (Kp.h hW).right.f8.f8.f8.f8.f8.f8.f8.f8) ?_
   refine kQ 8 rfl (iR (yh.jf none) underlying176 (show (prog.info? 35).map (fun i => (i.zero, i.size, i.bytes)) = some (some (.slice none 0 0), 1, 24) by kernel_rfl) rfl rfl rfl ((yh).aS) (aC (by first | rfl | exact Rd.one ((yh.f2).aS)) cZ) (by omega) (by omega)) ?_
   rintro l21 UG qF
   have Iq := qF.f2.right
   have D9 := aB.kp (Iq.f9.f9.f9.f9.f9.f9.f9.f9.f9)
   refine gB D9 (by kernel_rfl) ?_
   refine gI 9 rfl (by kernel_rfl) (aT 0 (l' := [_]) Iq.f9 sizeOf176 rfl rfl (by first | rfl | exact Rd.one ((Iq).aS)) rfl rfl) ?_
   rintro _ Td y5
   have Gi := aB.kp (y5.f9.f9.f9.f9.f9.f9.f9.f9.f9)
   refine gB Gi (by kernel_rfl) ?_
   have X := aB.rQ (es := es1) (y5.f6.f6.f9.f9.f9.f6.f7.f9.f9).deep
   have hJn : aB w0 Td (yD b1 G N 0 • dH p (.cells #[wU, uP, .int .i64 op, .int .i64 (eY G N : Nat), .bool true] 180 (0, 0)) • Row 35 1 wU jP.length (jP.map (·.1)) • nZ jP • Row 101 3 uP jy.length (jy.flatMap dD.enc) • jH jy • F) :=
    aB.D8 (hs := [(u19, es1)]) (by rw [hN, ← oG, ← hes1]; rfl) (aB.uN (gs := []) X.Jz.f3.f3.f2).swap
   refine qQ ?_
   refine vC (()) ?_ ?_ ?_
   ·exact (Sub.nil _)
   ·exact (Sub.cons rfl (Sub.cons rfl (Sub.nil _)))
   ·(try dsimp only)
    first | done | exact hJn
  ·(try simp only [aF] at h2)
   have hN : Il N = [] := if_pos (by rw [← oG, List.eq_nil_of_length_eq_zero (show jy.length = 0 by omega)]; rfl)
   have hJn : aB w0 w1 (yD b1 G N 0 • dH p (.cells #[wU, uP, .int .i64 op, .int .i64 (eY G N : Nat), .bool true] 180 (0, 0)) • Row 35 1 wU jP.length (jP.map (·.1)) • nZ jP • Row 101 3 uP jy.length (jy.flatMap dD.enc) • jH jy • F) :=
    aB.D8 (hs := []) (by rw [hN]; rfl) ((lS.f5.f5.f5.f5.f5.f6).zD none).swap
   refine aO ?_
   refine vC (()) ?_ ?_ ?_
   ·exact (Sub.nil _)
   ·exact (Sub.cons rfl (Sub.cons rfl (Sub.nil _)))
   ·(try dsimp only)
    first | done | exact hJn
theorem JL (c : Nat) (hB : ∀ g ∈ yP G N, ∀ e ∈ g, EB e) (hL : ∀ g ∈ yP G N, g.length ≤ 16384) : Iter prog w0 (.func (.func 217) #[] #[.pointer (some ⟨c, 0, none⟩)]) (yD c G N G.length) (yP G N).length
  (fun k vs A => ∃ u, ∃ fs : List dD, fs.map dD.says = (yP G N).getD k [] ∧ vs = [u] ∧ A = Fh u fs) := by
 intro l J X w hy H
 refine ⟨217, [], [.pointer (some ⟨c, 0, none⟩)], _, _, rfl, func217, rfl, rfl, ?_⟩
 obtain ⟨v, hs, QC, ZW, H1⟩ := H.comm.JK
 have Yo := QC
 rw [List.take_of_length_le (by simp), ← TJ] at QC
 have hlen : hs.length = (yP G N).length := by have := congrArg List.length QC; simpa using this
 obtain ⟨a, d, hv, hc1, hc2, _⟩ := (H1.swap.aS).form
 subst hv
 simp only [List.nil_append, List.cons_append]
 refine gG func217 ntmps217 ?_
 dsimp only [bf, Nat.reduceAdd]
 refine ay (ah (dX underlying176 rfl (H1).get.2 rfl (aU (jg ((H1.f2).aS) underlying176 rfl) (aN rfl (aA (aj (bF ?_)))))))
 refine gQ [(0, _), (5, _), (6, _)] (fun (k : Nat) => [(7, .int .i64 (k : Int))]) (fun (k : Nat) W => k ≤ hs.length ∧ aB w0 W (dH c (.cells #[.slice a hs.length d] 176 (0, 0)) • Row 35 1 (.slice a hs.length d) hs.length (hs.map (·.1)) • nZ hs • J k)) (fun (k : Nat) => hs.length - k) (0) (Sub.cons rfl (Sub.cons rfl (Sub.cons rfl (Sub.nil _)))) (Sub.cons rfl (Sub.nil _)) ⟨by omega, H1⟩ ?_
 rintro k w1 ⟨hk, HL⟩
 dsimp only [List.cons_append, List.nil_append]
 refine ay (ah (aU (eF rfl rfl) (aA (aj (ay (aP rfl (fun h1 => ?_) (fun h1 => ?_)))))))
 ·(try simp only [aF] at h1)
  try (exfalso; first | contradiction | omega)
  all_goals
   refine aO (aj (ay (bF (ay (ah ?_)))))
   obtain ⟨bv, ov, cv, ev⟩ := Rd.zn ((HL.f2).aS) (by omega)
   cases ev
   refine aU (gX underlying176 sizeOf35 rfl rfl (by omega)) ?_
   refine aU (kU (dB underlying35 rfl) rfl (by first | exact Rd.GV ((HL.f2).aS) (by omega) | exact Rd.UD ((HL.f2).aS) (by omega) | exact Rd.SK ((HL.f2).aS) (by omega))) ?_
   have hkl : k < hs.length := by omega
   rw [show (hs.map (·.1)).getD k undef = (hs.getD k default).1 from by simp [List.getD_eq_getElem?_getD, hkl]]
   obtain ⟨gl, vT, hg⟩ : ∃ gl vT, hs.getD k default = (gl, vT) := ⟨_, _, rfl⟩
   rw [hg]
   have Ho2 := HL.f3
   have Hc3 := Ho2.Ij hkl hg
   have hge : vT.map dD.says = (yP G N).getD k [] := by
    rw [← QC]
    have h9 : (hs.map (fun g => g.2.map dD.says)).getD k [] = (hs.getD k default).2.map dD.says := by simp [List.getD_eq_getElem?_getD, hkl]
    rw [h9, hg]
   have hgm : (yP G N).getD k [] ∈ yP G N := uJ (by omega)
   have hBg := JI hge (hB _ hgm)
   have Yi : vT.length ≤ 16384 := by
    have h7 := congrArg List.length hge
    rw [List.length_map] at h7
    have := hL _ hgm
    omega
   refine aV rfl (aA (aj (ay (ah (aN rfl (aN rfl (bW rfl func187 (uf Hc3 hBg Yi) ?_)))))))
   rintro u4 w4 ⟨fs4, aag, H4⟩
   obtain ⟨es2, rfl⟩ : ∃ q, q = fs4 := ⟨_, rfl⟩
   have hes2 := aag
   have Hd5 := H4.f3.right
   refine iy (Ih rfl rfl (hy k (by omega) _ _ ⟨_, es2, hes2.trans hge, rfl, rfl⟩ (nZ hs • Row 35 1 (.slice (some ⟨bv, ov, none⟩) hs.length d) hs.length (hs.map (·.1)) • dH c (.cells #[.slice (some ⟨bv, ov, none⟩) hs.length d] 176 (0, 0))) _ (Hd5.of_eq (by unfold Fh; ac_rfl))).bool) ?_
   rintro _ w6 ⟨t, rfl, ht1, ht2⟩
   refine aU (jY rfl) (aA (aj (aP rfl (fun h2 => ?_) (fun h2 => ?_))))
   ·(try simp only [aF] at h2)
    try (exfalso; first | contradiction | omega)
    all_goals
     have HX := ht2 (by simpa using h2)
     refine aI (aY (aK (aK (aY (gU (.inl rfl) results217 ?_)))))
     exact .inr (aB.comm (aB.D8 (u := .slice (some ⟨bv, ov, none⟩) hs.length d) Yo (HX.of_eq (by unfold zC; ac_rfl))))
   ·(try simp only [aF] at h2)
    try (exfalso; first | contradiction | omega)
    all_goals
     have HN : aB w0 w6 (dH c (.cells #[.slice (some ⟨bv, ov, none⟩) hs.length d] 176 (0, 0)) • Row 35 1 (.slice (some ⟨bv, ov, none⟩) hs.length d) hs.length (hs.map (·.1)) • nZ hs • J (k + 1)) := by
      have h9 := ht1 (by simpa using h2)
      exact h9.of_eq (by ac_rfl)
     refine aO (aQ (aj (ah (aU (fC rfl rfl (by omega)) (aN rfl (aA ?_))))))
     refine eG (k + 1) ?_ ?_ ?_ ?_
     ·exact (Sub.cons rfl (Sub.nil _))
     ·exact (Sub.cons rfl (Sub.cons rfl (Sub.cons rfl (Sub.nil _))))
     ·(try dsimp only)
      first | done | exact ⟨by omega, HN.f3.f3.f3⟩
     ·(try dsimp only); omega
 ·(try simp only [aF] at h1)
  try (exfalso; first | contradiction | omega)
  all_goals
   refine eU (aZ (aZ (bK (gU (.inr rfl) results217 ?_))))
   obtain rfl : k = hs.length := by omega
   rw [← hlen]
   exact .inl (aB.comm (aB.D8 (u := .slice a hs.length d) Yo (HL.of_eq (by unfold zC; ac_rfl))))
end
end Go.Proofs.YtgndbccogcofjaaGreatDoor
end
section
namespace Go.Proofs.YtgndbccogcofjaaGreatDoor
open Go.RowKit
def Bz (P : Int → Nat) (U : Int → List (List fB)) : List Int → HP
  | [] => emp
  | k :: D => eX (P k) (U k) [] 0 • Bz P U D
def JM (D : List Int) (P : Int → Nat) : Int → Option Value := fun k => if k ∈ D then some (.pointer (some ⟨P k, 0, none⟩)) else none
theorem uU {P : Int → Nat} {U : Int → List (List fB)} {k : Int} : ∀ {D : List Int}, k ∈ D → Bz P U D = (eX (P k) (U k) [] 0 • Bz P U (D.erase k))
  | x :: D, h => by
    by_cases e : x = k
    · subst e; rw [List.erase_cons_head]; rfl
    · rw [List.erase_cons_tail (by simpa using e)]
      have hk : k ∈ D := (List.mem_cons.1 h).resolve_left (Ne.symm e)
      show (eX (P x) (U x) [] 0 • Bz P U D) = _
      rw [uU hk]
      show (eX (P x) (U x) [] 0 • eX (P k) (U k) [] 0 • Bz P U (D.erase k)) = (eX (P k) (U k) [] 0 • (eX (P x) (U x) [] 0 • Bz P U (D.erase k)))
      ac_rfl
theorem xH {P P' : Int → Nat} {U U' : Int → List (List fB)} : ∀ {D : List Int}, (∀ k ∈ D, P k = P' k ∧ U k = U' k) → Bz P U D = Bz P' U' D
  | [], _ => rfl
  | x :: D, h => by
    show (eX (P x) (U x) [] 0 • Bz P U D) = (eX (P' x) (U' x) [] 0 • Bz P' U' D)
    rw [(h x (by simp)).1, (h x (by simp)).2, xH fun k hk => h k (List.mem_cons_of_mem _ hk)]
def uV (b : Nat) (U : Int → List (List fB)) : HP := tN fun (x : List Int × (Int → Nat)) => fact (x.1.Nodup ∧ ∀ k, k ∉ x.1 → U k = []) • fJ qE b (JM x.1 x.2) • Bz x.2 U x.1
def Gj (b : Nat) (U : Int → List (List fB)) (k : Int) (p : Nat) : HP := tN fun (x : List Int × (Int → Nat)) => fact (x.1.Nodup ∧ (∀ k, k ∉ x.1 → U k = []) ∧ k ∈ x.1 ∧ x.2 k = p) • fJ qE b (JM x.1 x.2) • Bz x.2 U (x.1.erase k)
section
variable {w0 w : World} {F : HP} {b p : Nat} {k : Int} {U : Int → List (List fB)} {G : List (List fB)}
theorem aB.Yp (H : aB w0 w (uV b U • F)) : ∃ D P, (D : List Int).Nodup ∧ (∀ k, k ∉ D → U k = []) ∧ aB w0 w (fJ qE b (JM D P) • Bz P U D • F) := by
  obtain ⟨⟨D, P⟩, H⟩ := H.ng
  obtain ⟨⟨h1, h2⟩, H⟩ := H.flat.fact
  exact ⟨D, P, h1, h2, H.flat⟩
theorem aB.Cj {D : List Int} {P : Int → Nat} (h1 : D.Nodup) (h2 : ∀ k, k ∉ D → U k = []) (H : aB w0 w (fJ qE b (JM D P) • Bz P U D • F)) : aB w0 w (uV b U • F) :=
  aB.iH (D, P) (aB.deep (aB.kE ⟨h1, h2⟩ H.deep))
theorem aB.U0 {D : List Int} {P : Int → Nat} (h1 : D.Nodup) (h2 : ∀ k, k ∉ D → U k = []) (hk : k ∈ D) (H : aB w0 w (fJ qE b (JM D P) • Bz P U D • F)) : aB w0 w (eX (P k) (U k) [] 0 • Gj b U k (P k) • F) := by
  have H1 : aB w0 w ((fJ qE b (JM D P) • Bz P U (D.erase k)) • eX (P k) (U k) [] 0 • F) := H.of_eq (by rw [uU hk]; ac_rfl)
  have H2 : aB w0 w (Gj b U k (P k) • eX (P k) (U k) [] 0 • F) := aB.iH (D, P) (aB.deep (aB.kE ⟨h1, h2, hk, rfl⟩ H1))
  exact H2.swap
theorem aB.uX (H : aB w0 w (Gj b U k p • eX p G [] 0 • F)) : aB w0 w (uV b (xX U k G) • F) := by
  obtain ⟨⟨D, P⟩, H⟩ := H.ng
  obtain ⟨⟨h1, h2, hk, hp⟩, H⟩ := H.flat.fact
  dsimp only at h1 h2 hk hp H
  subst hp
  refine aB.Cj (D := D) (P := P) h1 (fun x hx => ?_) ?_
  · rw [uQ _ _ (by rintro rfl; exact hx hk)]; exact h2 x hx
  · rw [uU (U := xX U k G) hk, gq, xH (P' := P) (U' := U) fun x hx => ⟨rfl, uQ _ _ (by rintro rfl; exact (List.Nodup.not_mem_erase h1) hx)⟩]
    exact H.of_eq (by ac_rfl)
end
def wY (t : Int → Option ByteArray) : Int → Option Value := fun k => (t k).map .string
def LP (pb pr pw pt pm : Nat) (c : lY) : HP := dW pb c.L c.pt c.mark • dw pr c.E c.at_ • dH pw (.cells #[.int .i64 c.place, .map (some pt)] 85 (0, 0)) • fJ qE pt (wY c.tx) • uV pm c.un
def Nz (pb pr pw pm : Nat) (c : lY) : List Value := [.pointer (some ⟨pb, 0, none⟩), .pointer (some ⟨pr, 0, none⟩), .pointer (some ⟨pw, 0, none⟩), .map (some pm), .int .i64 c.mode, .bool c.over, .int .i64 c.last, .int .i64 c.fr, .int .i64 c.to, .int .i64 c.res, .bool c.run]
def rV (dU : Bool) (c : lY) (u : List Value) : HP := if dU = true then tN fun (x : Nat × Nat × Nat × Nat × Nat) => fact (u = Nz x.1 x.2.1 x.2.2.1 x.2.2.2.2 c) • LP x.1 x.2.1 x.2.2.1 x.2.2.2.1 x.2.2.2.2 c else (fact ((u.all fun x => x.oneCell') = true))
def LQ (hl : List qO) (c : lY) : Prop := 0 ≤ c.place ∧ c.place ≤ hl.length ∧ (∀ k t, c.tx k = some t → t.size ≤ 16384)
def vW (e : fB) : Prop := 0 ≤ e.1 ∧ 0 < e.2.1.length + e.2.2.length ∧ e.2.1.length ≤ 1024 ∧ e.2.2.length ≤ 1024
def kP (s : bC) : Prop := LQ s.hl s.c ∧ (s.dU = true → LQ s.hl s.was ∧ eY (s.was.un s.was.place) [] ≤ 16384 ∧ ∀ k, ∀ g ∈ s.was.un k, ∀ e ∈ g, vW e) ∧ (-1 ≤ s.arg ∧ s.arg ≤ 1000000) ∧ (∀ e ∈ s.put, vW e) ∧ eY s.here s.put ≤ 16384 ∧ (∀ k, ∀ g ∈ s.c.un k, ∀ e ∈ g, vW e)
structure EdP where
  pb : Nat
  pr : Nat
  pw : Nat
  pt : Nat
  pm : Nat
  ph : Nat
  bl : Nat
  pv : Value
  es : List dD
  u0 : Value
  u1 : Value
  u2 : Value
  u3 : Value
  u4 : Value
  u5 : Value
  u6 : Value
  u7 : Value
  u8 : Value
  u9 : Value
  ua : Value
def Zd (e : Nat) (s : bC) (M : Nat → HP) : HP := tN fun (x : EdP) => fact (kP s ∧ x.es.map dD.says = s.put) •
  dH e (.cells (.pointer (some ⟨x.pb, 0, none⟩) :: .pointer (some ⟨x.pr, 0, none⟩) :: .pointer (some ⟨x.pw, 0, none⟩) :: .map (some x.pm) :: .int .i64 s.c.mode :: .bool s.c.over :: .int .i64 s.c.last :: .int .i64 s.c.fr :: .int .i64 s.c.to :: .int .i64 s.c.res :: .bool s.c.run :: .pointer (some ⟨x.ph, 0, none⟩) :: .pointer (some ⟨x.bl, 0, none⟩) :: .bool s.given :: .bool s.minus :: .int .i64 s.arg :: .bool s.dU :: x.u0 :: x.u1 :: x.u2 :: x.u3 :: x.u4 :: x.u5 :: x.u6 :: x.u7 :: x.u8 :: x.u9 :: x.ua :: .int .i64 s.cls :: .bool s.killed :: .bool s.lu :: .bool s.argues :: .bool s.whole :: x.pv :: []).toArray 37 (0, 0)) •
  dW x.pb s.c.L s.c.pt s.c.mark • dw x.pr s.c.E s.c.at_ • dH x.pw (.cells #[.int .i64 s.c.place, .map (some x.pt)] 85 (0, 0)) • fJ qE x.pt (wY s.c.tx) • M x.pm •
  fU x.ph s.hl s.base s.most • dH x.bl (.cells #[.int .i64 s.wX] 106 (0, 0)) • Row 101 3 x.pv s.put.length (x.es.flatMap dD.enc) • jH x.es • rV s.dU s.was [x.u0, x.u1, x.u2, x.u3, x.u4, x.u5, x.u6, x.u7, x.u8, x.u9, x.ua]
def dA (e : Nat) (s : bC) : HP := Zd e s fun pm => uV pm s.c.un
def aah (e : Nat) (s : bC) (p : Nat) : HP := Zd e s fun pm => Gj pm s.c.un s.c.place p
section
variable {w0 w : World} {F : HP} {e : Nat} {s : bC} {M : Nat → HP}
theorem aB.edG (H : aB w0 w (Zd e s M • F)) : ∃ pb pr pw pt pm ph bl pv es u0 u1 u2 u3 u4 u5 u6 u7 u8 u9 ua, kP s ∧ es.map dD.says = s.put ∧ es.length = s.put.length ∧ aB w0 w (
  dH e (.cells (.pointer (some ⟨pb, 0, none⟩) :: .pointer (some ⟨pr, 0, none⟩) :: .pointer (some ⟨pw, 0, none⟩) :: .map (some pm) :: .int .i64 s.c.mode :: .bool s.c.over :: .int .i64 s.c.last :: .int .i64 s.c.fr :: .int .i64 s.c.to :: .int .i64 s.c.res :: .bool s.c.run :: .pointer (some ⟨ph, 0, none⟩) :: .pointer (some ⟨bl, 0, none⟩) :: .bool s.given :: .bool s.minus :: .int .i64 s.arg :: .bool s.dU :: u0 :: u1 :: u2 :: u3 :: u4 :: u5 :: u6 :: u7 :: u8 :: u9 :: ua :: .int .i64 s.cls :: .bool s.killed :: .bool s.lu :: .bool s.argues :: .bool s.whole :: pv :: []).toArray 37 (0, 0)) •
  dW pb s.c.L s.c.pt s.c.mark • dw pr s.c.E s.c.at_ • dH pw (.cells #[.int .i64 s.c.place, .map (some pt)] 85 (0, 0)) • fJ qE pt (wY s.c.tx) • M pm •
  fU ph s.hl s.base s.most • dH bl (.cells #[.int .i64 s.wX] 106 (0, 0)) • Row 101 3 pv s.put.length (es.flatMap dD.enc) • jH es • rV s.dU s.was [u0, u1, u2, u3, u4, u5, u6, u7, u8, u9, ua] • F) := by
  obtain ⟨⟨pb, pr, pw, pt, pm, ph, bl, pv, es, u0, u1, u2, u3, u4, u5, u6, u7, u8, u9, ua⟩, H⟩ := H.ng
  obtain ⟨⟨h1, h2⟩, H⟩ := H.flat.fact
  refine ⟨pb, pr, pw, pt, pm, ph, bl, pv, es, u0, u1, u2, u3, u4, u5, u6, u7, u8, u9, ua, h1, h2, ?_, ?_⟩
  · rw [← h2]; simp
  · dsimp only at H
    exact H.of_eq (by simp only [cO])
theorem aB.V9 {pb pr pw pt pm ph bl : Nat} {pv : Value} {es : List dD} {u0 u1 u2 u3 u4 u5 u6 u7 u8 u9 ua : Value} (h1 : kP s) (h2 : es.map dD.says = s.put) (H : aB w0 w (
  dH e (.cells (.pointer (some ⟨pb, 0, none⟩) :: .pointer (some ⟨pr, 0, none⟩) :: .pointer (some ⟨pw, 0, none⟩) :: .map (some pm) :: .int .i64 s.c.mode :: .bool s.c.over :: .int .i64 s.c.last :: .int .i64 s.c.fr :: .int .i64 s.c.to :: .int .i64 s.c.res :: .bool s.c.run :: .pointer (some ⟨ph, 0, none⟩) :: .pointer (some ⟨bl, 0, none⟩) :: .bool s.given :: .bool s.minus :: .int .i64 s.arg :: .bool s.dU :: u0 :: u1 :: u2 :: u3 :: u4 :: u5 :: u6 :: u7 :: u8 :: u9 :: ua :: .int .i64 s.cls :: .bool s.killed :: .bool s.lu :: .bool s.argues :: .bool s.whole :: pv :: []).toArray 37 (0, 0)) •
  dW pb s.c.L s.c.pt s.c.mark • dw pr s.c.E s.c.at_ • dH pw (.cells #[.int .i64 s.c.place, .map (some pt)] 85 (0, 0)) • fJ qE pt (wY s.c.tx) • M pm •
  fU ph s.hl s.base s.most • dH bl (.cells #[.int .i64 s.wX] 106 (0, 0)) • Row 101 3 pv s.put.length (es.flatMap dD.enc) • jH es • rV s.dU s.was [u0, u1, u2, u3, u4, u5, u6, u7, u8, u9, ua] • F)) : aB w0 w (Zd e s M • F) :=
  aB.iH ⟨pb, pr, pw, pt, pm, ph, bl, pv, es, u0, u1, u2, u3, u4, u5, u6, u7, u8, u9, ua⟩ (aB.deep (aB.kE ⟨h1, h2⟩ (H.of_eq (by simp only [cO]))))
theorem aB.dM {pb pr pw pt pm ph bl : Nat} {pv : Value} {es : List dD} {u0 u1 u2 u3 u4 u5 u6 u7 u8 u9 ua : Value} (h1 : kP s) (h2 : es.map dD.says = s.put) (H : aB w0 w (
  dH e (.cells (.pointer (some ⟨pb, 0, none⟩) :: .pointer (some ⟨pr, 0, none⟩) :: .pointer (some ⟨pw, 0, none⟩) :: .map (some pm) :: .int .i64 s.c.mode :: .bool s.c.over :: .int .i64 s.c.last :: .int .i64 s.c.fr :: .int .i64 s.c.to :: .int .i64 s.c.res :: .bool s.c.run :: .pointer (some ⟨ph, 0, none⟩) :: .pointer (some ⟨bl, 0, none⟩) :: .bool s.given :: .bool s.minus :: .int .i64 s.arg :: .bool s.dU :: u0 :: u1 :: u2 :: u3 :: u4 :: u5 :: u6 :: u7 :: u8 :: u9 :: ua :: .int .i64 s.cls :: .bool s.killed :: .bool s.lu :: .bool s.argues :: .bool s.whole :: pv :: []).toArray 37 (0, 0)) •
  dW pb s.c.L s.c.pt s.c.mark • dw pr s.c.E s.c.at_ • dH pw (.cells #[.int .i64 s.c.place, .map (some pt)] 85 (0, 0)) • fJ qE pt (wY s.c.tx) • uV pm s.c.un •
  fU ph s.hl s.base s.most • dH bl (.cells #[.int .i64 s.wX] 106 (0, 0)) • Row 101 3 pv s.put.length (es.flatMap dD.enc) • jH es • rV s.dU s.was [u0, u1, u2, u3, u4, u5, u6, u7, u8, u9, ua] • F)) : aB w0 w (dA e s • F) := aB.V9 (M := fun pm => uV pm s.c.un) h1 h2 H
theorem aB.BQ (H : aB w0 w (dA e s • F)) : ∃ pb pr pw pt pm ph bl pv es u0 u1 u2 u3 u4 u5 u6 u7 u8 u9 ua, kP s ∧ es.map dD.says = s.put ∧ es.length = s.put.length ∧ aB w0 w (
  dH e (.cells (.pointer (some ⟨pb, 0, none⟩) :: .pointer (some ⟨pr, 0, none⟩) :: .pointer (some ⟨pw, 0, none⟩) :: .map (some pm) :: .int .i64 s.c.mode :: .bool s.c.over :: .int .i64 s.c.last :: .int .i64 s.c.fr :: .int .i64 s.c.to :: .int .i64 s.c.res :: .bool s.c.run :: .pointer (some ⟨ph, 0, none⟩) :: .pointer (some ⟨bl, 0, none⟩) :: .bool s.given :: .bool s.minus :: .int .i64 s.arg :: .bool s.dU :: u0 :: u1 :: u2 :: u3 :: u4 :: u5 :: u6 :: u7 :: u8 :: u9 :: ua :: .int .i64 s.cls :: .bool s.killed :: .bool s.lu :: .bool s.argues :: .bool s.whole :: pv :: []).toArray 37 (0, 0)) •
  dW pb s.c.L s.c.pt s.c.mark • dw pr s.c.E s.c.at_ • dH pw (.cells #[.int .i64 s.c.place, .map (some pt)] 85 (0, 0)) • fJ qE pt (wY s.c.tx) • uV pm s.c.un •
  fU ph s.hl s.base s.most • dH bl (.cells #[.int .i64 s.wX] 106 (0, 0)) • Row 101 3 pv s.put.length (es.flatMap dD.enc) • jH es • rV s.dU s.was [u0, u1, u2, u3, u4, u5, u6, u7, u8, u9, ua] • F) := H.edG
end
end Go.Proofs.YtgndbccogcofjaaGreatDoor
end
