import Derived.Test.YtddekefihgejoaaGreatDoorZ2
import Derived.Test.YtddekefihgejoaaGreatDoorZ7
import Derived.Test.YtddekefihgejoaaGreatDoorZ6
import Derived.Test.YtddekefihgejoaaGreatDoorZ8
import Derived.Test.YtddekefihgejoaaGreatDoorZ4
import Derived.Maps.RangeRun
set_option linter.unusedSimpArgs false
set_option linter.unusedVariables false
/- Texts of mine, joined, their names in short: Hist EdM Map UGroups. -/
section
namespace Go.Proofs.YtddekefihgejoaaGreatDoor
open Go.RowKit
open _root_.Go.Proofs.Tryz
abbrev kZ := ByteArray × Int
def jH (x : kZ) : List Value := [.string x.1, .int .i64 x.2]
theorem uw (x : kZ) : (jH x).length = 2 := rfl
def Qz (x : kZ) : Prop := x.1.size ≤ 16384 ∧ 0 ≤ x.2
def VA (hl : List kZ) (base most : Int) : Prop := hl.length ≤ 4096 ∧ 1 ≤ base ∧ base ≤ 4611686018427387904 ∧ (hl.length : Int) ≤ most ∧ most ≤ 4096 ∧ ∀ x ∈ hl, Qz x
def dh (p : Nat) (hl : List kZ) (base most : Int) : HP := qJ fun (v : Value) => fact (VA hl base most) • bY p (.cells #[v, .int .i64 base, .int .i64 most] 176 (0, 0)) • Row 84 2 v hl.length (hl.flatMap jH)
section
variable {P : Program} {L : List (Nat × Value)} {w0 w : World} {F : HP} {ty : TypeId} {p : Nat} {hl : List kZ} {base most : Int} {v : Value}
theorem DJ {t e sz : Nat} {z : Value} (H : aB w0 w F) (ht : P.underlying t = some (.slice e)) (hs : ∀ w, (sizeOf e).run P w = .ok sz w) (hz : ∀ w, (zeroValue e).run P w = .ok z w) :
    rH P L (.buildSlice t 0 #[]) ty w fun v w' => aB w0 w' (Row e sz v 0 [] • F) := by
  refine ni (v := .slice (some ⟨w.heap.size, 0, none⟩) 0 0) (w' := w.alloc (.cells #[] e)) ?_ ?_
  · intro ρ hρ d pos lC g
    simp only [execOp, Instr.buildSlice, Sem.run_bind, run_underlying ht, Result.andThen_ok, hs]
    have h0 : Array.map (fun (_ : Nat) => (default : Value)) (Array.range 0) = #[] := Array.eq_empty_of_size_eq_zero (by simp)
    simp [Instr.fill, newRow, h0]
  · exact (H.alloc _).right.ig _
theorem aB.hist (H : aB w0 w (dh p hl base most • F)) : ∃ v, VA hl base most ∧ aB w0 w (bY p (.cells #[v, .int .i64 base, .int .i64 most] 176 (0, 0)) • Row 84 2 v hl.length (hl.flatMap jH) • F) := by
  obtain ⟨v, H⟩ := H.lg
  obtain ⟨h, H⟩ := H.flat.fact
  exact ⟨v, h, H.flat⟩
theorem aB.qg (h : VA hl base most) (H : aB w0 w (bY p (.cells #[v, .int .i64 base, .int .i64 most] 176 (0, 0)) • Row 84 2 v hl.length (hl.flatMap jH) • F)) : aB w0 w (dh p hl base most • F) :=
  aB.gJ v (aB.deep (aB.jL h H.deep))
theorem MK {hl : List kZ} : ∀ x ∈ hl.flatMap jH, x.oneCell' = true := by
  intro x hx
  obtain ⟨e, _, hx⟩ := List.mem_flatMap.1 hx
  simp [jH] at hx
  rcases hx with rfl | rfl <;> rfl
theorem TM : (prog.info? 84).map (fun i => (i.zero, i.size, i.bytes)) = some (some (.agg #[.string .empty, .int .i64 0]), 2, 24) := by kernel_rfl
theorem vF (H : aB w0 w F) (hr : Ie w0 F 2 v hl.length (hl.flatMap jH)) (hb : hl.length ≤ 1099511627776) :
    fE prog 104 #[v] w fun v' w' => aB w0 w' (Row 84 2 v' hl.length (hl.flatMap jH) • F) := by
  obtain ⟨hlen, a, c, rfl, h1, h2, h3⟩ := hr w H
  refine gy func104 ntmps104 ?_
  dsimp only [aY, Nat.reduceAdd]
  refine ay (ah (aV rfl (aA (aj (ay (ay (ah (aN rfl (aU (jm underlying24 rfl rfl) (aA (aj (aP rfl (fun h1 => ?_) (fun h1 => ?_)))))))))))))
  · (try simp only [aI] at h1)
    try (exfalso; first | contradiction | omega)
    all_goals
      refine ay (ah (aV rfl (aA (aj (aJ (aK (aQ (.inl rfl) results104 rfl ?_)))))))
      obtain rfl : a = none := by simpa using h1
      obtain rfl : hl = [] := by
        cases hl with
        | nil => rfl
        | cons x l => obtain ⟨b, o, e, _⟩ := h3 (by simp); cases e
      exact H.ig none
  · (try simp only [aI] at h1)
    try (exfalso; first | contradiction | omega)
    all_goals
      refine aT (aj (ay (ah (gq (DJ H underlying24 sizeOf84 zeroValue84) ?_))))
      rintro _ w1 H1
      refine aN rfl (gq (fF H1 underlying24 TM rfl rfl rfl (hr.under _ H1) MK (by omega) (by omega)) ?_)
      rintro _ w2 H2
      refine aV rfl (aA (aj (aJ (aQ (.inl rfl) results104 rfl ?_))))
      exact H2.of_eq (by rw [Nat.zero_add, List.nil_append])
theorem oN (H : aB w0 w (dh p hl base most • F)) : fE prog 103 #[.pointer (some ⟨p, 0, none⟩)] w fun v w' => v = .bool false ∧ w = w' := by
 refine gy func103 ntmps103 ?_
 dsimp only [aY, Nat.reduceAdd]
 refine ay (ah (aV rfl (aA (aj (ay ?_)))))
 obtain ⟨QA, uy, vG⟩ := (H).hist
 refine ah (aN rfl (aU (eF underlying65 rfl rfl) (jy rfl (fun h1 => ?_) (fun h1 => ?_))))
 ·(try simp only [aI] at h1)
  try (exfalso; first | contradiction | omega)
  all_goals
   refine bF (bF (bF (bF (bF (bF (jw rfl rfl (aV rfl (aA (aj (aJ (aQ (.inl rfl) results103 rfl ?_)))))))))))
   exact ⟨by rw [show (base == 0) = false from by rw [beq_eq_false_iff_ne]; have := uy.2.1; omega], rfl⟩
 ·(try simp only [aI] at h1)
  try (exfalso; first | contradiction | omega)
  all_goals
   refine bC (aN rfl (bC (bP rfl (bC (bg 0 underlying176 rfl sizeOf174 rfl (bC (bg 1 underlying174 rfl sizeOf2 rfl (bC (dO underlying2 rfl (vG).get.2 rfl (bC (aU (iY rfl rfl) (iU rfl rfl (aV rfl (aA (aj (aJ (aQ (.inl rfl) results103 rfl ?_)))))))))))))))))
   exact ⟨by rw [show (base == 0) = false from by rw [beq_eq_false_iff_ne]; have := uy.2.1; omega], rfl⟩
theorem Gu {n : Int} (H : aB w0 w F) (hn : 0 ≤ n ∧ n ≤ 4096) : fE prog 75 #[.int .i64 n] w fun v w' => ∃ p, v = .tuple #[.pointer (some ⟨p, 0, none⟩), .int .i64 0] ∧ aB w0 w' (dh p [] 1 n • F) := by
 refine gy func75 ntmps75 ?_
 dsimp only [aY, Nat.reduceAdd]
 refine ay (ah (aV rfl (aV rfl (aA (aj (ay (ay (ah (aN rfl (aU (eu rfl rfl) (jy rfl (fun h1 => ?_) (fun h1 => ?_))))))))))))
 ·(try simp only [aI] at h1)
  try (exfalso; first | contradiction | omega)
  all_goals
   refine bF (bF (jw rfl rfl (aA (aj (xg (ay (ah (aV rfl (aV rfl (aA (aj (aJ (aK (fV (.inl rfl) results75 rfl rfl ?_))))))))))))))
   exact ⟨_, rfl, aB.qg (v := .slice none 0 0) ⟨by simp, by decide, by decide, by simp; omega, by omega, by simp⟩ ((H.ig none).swap)⟩
 ·(try simp only [aI] at h1)
  try (exfalso; first | contradiction | omega)
  all_goals
   refine bC (aN rfl (bC (aU (fZ rfl rfl) (iU rfl rfl (aA (aj (aP rfl (fun h2 => ?_) (fun h2 => ?_))))))))
   ·(try simp only [aI] at h2)
    try (exfalso; first | contradiction | omega)
    all_goals
     refine ay (ah (aV rfl (aV rfl (aA (aj (aJ (aK (fV (.inl rfl) results75 rfl rfl ?_))))))))
     exact ⟨_, rfl, aB.qg (v := .slice none 0 0) ⟨by simp, by decide, by decide, by simp; omega, by omega, by simp⟩ ((H.ig none).swap)⟩
   ·(try simp only [aI] at h2)
    try (exfalso; first | contradiction | omega)
    all_goals
     refine aT (aj (ay (ah (aN rfl (aU (fD (pl := #[(0, 1), (1, 1), (2, 1)]) (#[_, _, _]) underlying174 zeroValue174 (fun w => by kernel_rfl) rfl (rfl)) (aU (fD (pl := #[(0, 3)]) (#[_, _, _]) underlying176 zeroValue176 (fun w => by kernel_rfl) rfl (rfl)) (gq (iw (l := [_, _, _]) H rfl rfl) ?_)))))))
     rintro _ w1 ⟨b1, rfl, H1⟩
     refine aV rfl (aV rfl (aA (aj (aJ (fV (.inl rfl) results75 rfl rfl ?_)))))
     exact ⟨_, rfl, aB.qg (v := .slice none 0 0) ⟨by simp, by decide, by decide, by simp; omega, by omega, by simp⟩ ((H1.ig none).swap)⟩
theorem jq (H : aB w0 w (dh p hl base most • F)) : fE prog 84 #[.pointer (some ⟨p, 0, none⟩)] w fun v w' => v = .int .i64 hl.length ∧ aB w0 w' (dh p hl base most • F) := by
 refine gy func84 ntmps84 ?_
 dsimp only [aY, Nat.reduceAdd]
 refine ay (ah (aV rfl (aA (aj (ay (ay (ah (aN rfl (dw rfl func103 (oN H) ?_)))))))))
 rintro _ _ ⟨rfl, rfl⟩
 refine aA (aj (pJ (aT (aj (ay ?_)))))
 obtain ⟨QA, uy, vG⟩ := (H).hist
 refine ah (aN rfl (bP rfl (bg 0 underlying176 rfl sizeOf174 rfl (bg 0 underlying174 rfl sizeOf24 rfl (dO underlying24 rfl (vG).get.2 rfl (aU (fM ((vG.f2).aO) underlying24 rfl) (aV rfl (aA (aj (aJ (aQ (.inl rfl) results84 rfl ?_)))))))))))
 have KC := vG.f2.f2
 have KD := aB.qg uy KC
 exact ⟨rfl, KD⟩
theorem nO (H : aB w0 w (dh p hl base most • F)) : fE prog 77 #[.pointer (some ⟨p, 0, none⟩)] w fun v w' => ∃ q, v = .pointer (some ⟨q, 0, none⟩) ∧ aB w0 w' (dh q hl base most • dh p hl base most • F) := by
 refine gy func77 ntmps77 ?_
 dsimp only [aY, Nat.reduceAdd]
 refine ay (ah (aV rfl (aA (aj (ay (ay (ah (aN rfl (dw rfl func103 (oN H) ?_)))))))))
 rintro _ _ ⟨rfl, rfl⟩
 refine aA (aj (pJ (aT (aj (ay ?_)))))
 obtain ⟨QA, uy, vG⟩ := (H).hist
 have hcl := uy.1
 have zV := vG.drew
 have eX := aB.kp (zV.f2.f2)
 refine vV [4, 10, 15] eX rfl (gQ 0 rfl eX rfl (iQ 1 rfl eX rfl (dR 2 rfl eX 0 underlying176 rfl sizeOf174 rfl (dR 3 rfl eX 0 underlying174 rfl sizeOf24 rfl (gY 4 rfl eX (fun W hW => iH underlying24 rfl ((Kp.h hW)).get.2 rfl) (gQ 6 rfl eX rfl (iQ 7 rfl eX rfl (dR 8 rfl eX 0 underlying176 rfl sizeOf174 rfl (dR 9 rfl eX 1 underlying174 rfl sizeOf2 rfl (gY 10 rfl eX (fun W hW => iH underlying2 rfl ((Kp.h hW)).get.2 rfl) (gQ 11 rfl eX rfl (iQ 12 rfl eX rfl (dR 13 rfl eX 0 underlying176 rfl sizeOf174 rfl (dR 14 rfl eX 2 underlying174 rfl sizeOf3 rfl (gY 15 rfl eX (fun W hW => iH underlying3 rfl ((Kp.h hW)).get.2 rfl) (jk 5 rfl (rP rfl func104 (vF zV (fun W HW => (HW.f2).aO) (by omega))) ?_))))))))))))))))
 rintro u3 w3 H3
 have BF := aB.kp (H3.f3.f3.f3)
 refine bT BF (fun W hW => (Kp.h hW).right.f2.f2) ?_
 obtain ⟨au3, cu3, Xy, -⟩ := ((H3).aO).form
 subst Xy
 refine iJ 16 rfl BF (fun _ => fD (pl := #[(0, 1), (1, 1), (2, 1)]) (#[_, _, _]) underlying174 zeroValue174 (fun w => by kernel_rfl) rfl (rfl)) (iJ 17 rfl BF (fun _ => fD (pl := #[(0, 3)]) (#[_, _, _]) underlying176 zeroValue176 (fun w => by kernel_rfl) rfl (rfl)) (jk 18 rfl (iw (l := [_, _, _]) H3 rfl rfl) ?_))
 rintro _ w4 ⟨b4, rfl, H4⟩
 have uj := aB.kp (H4.f4.f4.f4.f4)
 refine dN uj (by kernel_rfl) ?_
 refine iJ 19 rfl uj (fun _ => eP rfl) (nT (aj (aJ (aQ (.inl rfl) results77 rfl ?_))))
 have VB := H4.f4.f4
 have VD := aB.qg uy VB
 exact ⟨_, rfl, aB.qg uy VD.f3.f3⟩
end
end Go.Proofs.YtddekefihgejoaaGreatDoor
end
section
namespace Go.Proofs.YtddekefihgejoaaGreatDoor
open Go.RowKit
def sZ {β : Type} (f : Int → β) (a : Int) (v : β) : Int → β := fun x => if x = a then v else f x
theorem iC {β : Type} (f : Int → β) (a : Int) (v : β) : sZ f a v a = v := if_pos rfl
theorem rD {β : Type} (f : Int → β) {a x : Int} (v : β) (h : x ≠ a) : sZ f a v x = f x := if_neg h
theorem TN {β : Type} (f : Int → β) (a : Int) : sZ f a (f a) = f := by funext x; unfold sZ; split <;> simp_all
structure lF where
  L : List Int
  pt : Int
  mark : Int
  E : List (List Int)
  at_ : Nat
  place : Int
  tx : Int → Option ByteArray
  un : Int → List (List fB)
  mode : Int
  over : Bool
  last : Int
  fr : Int
  to : Int
  res : Int
  run : Bool
structure bG where
  c : lF
  hl : List kZ
  base : Int
  most : Int
  rY : Int
  given : Bool
  minus : Bool
  arg : Int
  inn : Bool
  was : lF
  cls : Int
  killed : Bool
  lQ : Bool
  argues : Bool
  whole : Bool
  put : List fB
def KJ (hl : List kZ) (k : Int) : kZ := if 0 ≤ k ∧ k < hl.length then hl.getD k.toNat default else (.empty, 0)
def rZ (hl : List kZ) (k : Int) : ByteArray := (KJ hl k).1
def eY (hl : List kZ) (tx : Int → Option ByteArray) (k : Int) : ByteArray := (tx k).getD (rZ hl k)
def oO (hl : List kZ) (tx : Int → Option ByteArray) (place : Int) (k : Nat) : Bool := decide ((k : Int) ≠ place) && !((eY hl tx k).toList == (rZ hl k).toList)
def jB (hl : List kZ) (tx : Int → Option ByteArray) (place : Int) (n : Nat) : List (Int × ByteArray) := ((List.range n).filter (oO hl tx place)).map fun (k : Nat) => ((k : Int), eY hl tx k)
def kU (hl : List kZ) (tx : Int → Option ByteArray) (place : Int) : List (Int × ByteArray) := jB hl tx place hl.length ++ (if place ≠ hl.length then [((hl.length : Int), eY hl tx hl.length)] else [])
def lG (G : List (List fB)) (inn : Bool) (put : List fB) (typed run : Bool) : Int := (G.length : Int) + if inn && !put.isEmpty && !(typed && run) then 1 else 0
namespace bG
variable (s : bG)
def here : List (List fB) := s.c.un s.c.place
def nP (G : List (List fB)) : bG := { s with c := { s.c with un := sZ s.c.un s.c.place G } }
def uz : Int := if s.inn then 0 else 1
def rE : Int := if s.inn then 1 else 0
def gK : bG := if s.inn then s else { s with inn := true, was := s.c, cls := 0, killed := false, lQ := false, argues := false, whole := true, put := [] }
def jP (on : Bool) : List (List fB) := if s.put = [] then s.here else if on then (match s.here.getLast? with | some g => s.here.dropLast ++ [g ++ s.put] | none => [s.put]) else s.here ++ [s.put]
def dB (on : Bool) : bG := if s.put = [] then s else { s.nP (s.jP on) with put := [] }
def y9 : bG := { s with given := false, minus := false, arg := -1 }
def zW (err : Int) : Int := if s.inn then err else 1
def xY : bG := { s.y9 with inn := false, c := { s.was with last := 0, fr := 0, to := 0 }, rY := IntKind.i64.wrap (s.rY + 1), put := [] }
def typed : Bool := s.cls == 3 && s.whole
def gI : bG := { (if s.argues then s else s.y9) with inn := false }
def kV : bG :=
  let t := s.gI.dB (s.typed && s.c.run)
  let c := { t.c with run := s.typed && (!s.put.isEmpty || s.c.run), last := s.cls }
  { t with c := if s.cls ≠ 2 then { c with fr := 0, to := 0 } else c }
def nR (err : Int) : bG := if s.inn then (if err = 0 then s.kV else s.xY) else s
def xH (x : fB) : bG :=
  if x.2.1.length + x.2.2.length = 0 then s else
  if 16384 ≤ eH s.here s.put then { s.nP [] with put := [x], c := { (s.nP []).c with run := false } } else { s with put := s.put ++ [x] }
def jJ (L : List Int) (pt mk : Int) : bG := { s with c := { s.c with L := L, pt := pt, mark := mk } }
def oC (i j : Int) (l : List Int) : Int := if s.inn then kE s.c.L i j l else 1
def su (i j : Int) (l : List Int) : bG := if s.inn then (s.jJ (pK s.c.L i j l) (pO s.c.L s.c.pt i j l) (pR s.c.L s.c.mark i j l)).xH (oW s.c.L i j l, jT s.c.L i j l, jU s.c.L i j l) else s
def QB (l : List Int) : Int := s.oC s.c.pt s.c.pt l
def Oo (l : List Int) : bG := s.su s.c.pt s.c.pt l
def zX (l : List Int) : Int := if s.c.over then min (s.c.pt + l.length) s.c.L.length else s.c.pt
def QC (l : List Int) : Int := s.oC s.c.pt (s.zX l) l
def xI (l : List Int) : bG := if s.inn then (let t := s.su s.c.pt (s.zX l) l; if s.QC l = 0 ∧ s.cls = 0 then { t with cls := 3 } else t) else s
def way (back : Bool) : Int := if s.c.last = 1 ∨ s.killed = true then (if back then 2 else 1) else 0
def Gv (i j : Int) : Prop := i < 0 ∨ s.c.L.length < i ∨ j < i ∨ s.c.L.length < j
instance (i j : Int) : Decidable (s.Gv i j) := by unfold Gv; infer_instance
def cut (i j : Int) : List Int := (s.c.L.drop i.toNat).take (j.toNat - i.toNat)
def QD (i j : Int) (back : Bool) : Int × List (List Int) × Nat := Xu s.c.E s.c.at_ (s.way back) (s.cut i j)
def ML (i j : Int) (back : Bool) : Int := if s.inn then (if s.Gv i j then 70 else (s.QD i j back).1) else 1
def TP (E : List (List Int)) (a : Nat) : bG := { s with c := { s.c with E := E, at_ := a } }
def UM (i j : Int) (back : Bool) : bG := if s.ML i j back = 0 then { s.TP (s.QD i j back).2.1 (s.QD i j back).2.2 with killed := true, cls := 1 } else s
def abh (i j : Int) (back : Bool) : Int := if s.ML i j back = 0 then (s.UM i j back).oC i j [] else s.ML i j back
def abj (i j : Int) (back : Bool) : bG := if s.ML i j back = 0 then (s.UM i j back).su i j [] else s
def top : List Int := s.c.E.getD s.c.at_ []
def XL : Int := if s.inn then (if s.c.E.length = 0 then 6 else s.QB s.top) else 1
def abk : bG :=
  if s.XL = 0 then
    let t := s.Oo s.top
    { t with lQ := true, cls := 2, c := { t.c with mark := smM t.c.L t.c.mark s.c.pt, fr := s.c.pt, to := s.c.pt + s.top.length } }
  else s
def VE (n : Int) : List Int := s.c.E.getD (zN s.c.E.length s.c.at_ n) []
def Zx (n : Int) : Int := if s.inn then (if s.c.last ≠ 2 ∨ s.lQ = true then 6 else if s.c.E.length = 0 then 6 else s.oC s.c.fr s.c.to (s.VE n)) else 1
def abY (n : Int) : bG :=
  if s.Zx n = 0 then
    let t := s.su s.c.fr s.c.to (s.VE n)
    { t with lQ := true, cls := 2, c := { t.c with E := s.c.E, at_ := zN s.c.E.length s.c.at_ n, fr := s.c.fr, to := s.c.fr + (s.VE n).length } }
  else s
def kills : List (List Int) := s.c.E.drop s.c.at_ ++ s.c.E.take s.c.at_
def E8 (x : Int) : Int := if s.inn then Xh s.c.L.length x else 1
def wH (x : Int) : bG := if s.inn then s.jJ s.c.L (UF s.c.L.length s.c.pt x) s.c.mark else s
def abl (x : Int) : Int := if s.inn then smE s.c.L x else 1
def abm (x : Int) : bG := if s.inn then s.jJ s.c.L s.c.pt (smM s.c.L s.c.mark x) else s
def abn : Int := if s.inn then swE s.c.mark else 1
def abo : bG := if s.inn then s.jJ s.c.L (swP s.c.pt s.c.mark) (swM s.c.pt s.c.mark) else s
def Zy (b : List Int × Int × Int) (x : fB) : List Int × Int × Int := (Zk b.1 x.1 x.2.1 x.2.2, Zl b.1 b.2.1 x.1 x.2.1 x.2.2, Zm b.1 b.2.2 x.1 x.2.1 x.2.2)
def apps (b : List Int × Int × Int) (l : List fB) : List Int × Int × Int := l.foldl Zy b
def UN (l : List fB) : bG := let b := apps (s.c.L, s.c.pt, s.c.mark) l; s.jJ b.1 b.2.1 b.2.2
def MN : bG := { s with whole := false, c := { s.c with run := false } }
def abp : bG := if s.inn then (let t := s.dB false; if t.here = [] then t else ((t.nP t.here.dropLast).UN ((t.here.getLastD []).reverse.map Dy)).MN) else s
def Qs : Int := if s.inn then (if (s.dB false).here = [] then 6 else 0) else 1
def abZ : bG := if s.inn then (let t := s.dB false; if t.here = [] then t else ((t.nP []).UN (t.here.flatten.reverse.map Dy)).MN) else s
def VF (d : Int) : Int := if s.inn then (if d < 0 ∨ 9 < d then 1 else 0) else 1
def Zz (d : Int) : bG := if s.VF d = 0 then { s with given := true, argues := true, arg := min (max s.arg 0 * 10 + d) 1000000 } else s
def ab0 : bG := if s.inn then { s with given := true, argues := true, minus := !s.minus } else s
def ZA (n : Int) : Int := if s.inn then (if 1000000 < n ∨ n < -1000000 then 1 else 0) else 1
def ab1 (n : Int) : bG := if s.ZA n = 0 then { s with given := true, argues := true, minus := decide (n < 0), arg := max n (-n) } else s
def count : Int := if s.given then (let n := if s.arg < 0 then 1 else s.arg; if s.minus then -n else n) else 1
def XM (m : Int) : Int := if s.inn then (if m < 0 ∨ 2 < m then 1 else 0) else 1
def abq (m : Int) : bG := if s.XM m = 0 then { s with c := { s.c with mode := m } } else s
def abr (b : Bool) : bG := if s.inn then { s with c := { s.c with over := b } } else s
def ZB (r : Int) : Int := if s.inn then (if r < 1 ∨ 3 < r then 1 else 0) else 1
def ab2 (r : Int) : bG := if s.ZB r = 0 then { s with c := { s.c with res := r } } else s
def first (k : Int) : ByteArray := rZ s.hl k
def stands (k : Int) : ByteArray := (s.c.tx k).getD (s.first k)
def QE : Int := lG s.here s.inn s.put s.typed s.c.run
def saved : List (Int × ByteArray) := kU s.hl s.c.tx s.c.place
def QF : Int := if s.inn then s.was.last else s.c.last
def ZC : Int := if s.inn then s.was.fr else s.c.fr
def ZE : Int := if s.inn then s.was.to else s.c.to
end bG
def lF.fresh (l : List Int) (E : List (List Int)) (a : Nat) (place mode : Int) : lF := ⟨l, l.length, -1, E, a, place, fun _ => none, fun _ => [], mode, false, 0, 0, 0, 0, false⟩
def bG.start (s : bG) (hl : List kZ) (base most : Int) (l : List Int) : bG := { s with c := lF.fresh l s.c.E s.c.at_ hl.length s.c.mode, hl := hl, base := base, most := most, given := false, minus := false, arg := -1 }
def bG.new (hl : List kZ) (base most : Int) : bG :=
  let c := lF.fresh [] [] 0 hl.length 0
  { c := c, hl := hl, base := base, most := most, rY := 0, given := false, minus := false, arg := -1, inn := false, was := c, cls := 0, killed := false, lQ := false, argues := false, whole := false, put := [] }
end Go.Proofs.YtddekefihgejoaaGreatDoor
end
section
namespace Go.Proofs.YtddekefihgejoaaGreatDoor
open Go.RowKit Go.MapKept
structure Key (α : Type) where
  mkKey ::
  d : TypeDesc
  mk : α → Value
  key : ∀ a, IsKey d (mk a)
  inj : ∀ a b, mk a = mk b → a = b
  onto : ∀ v, IsKey d v → ∃ a, mk a = v
def xu (k : IntKind) : Key Int := ⟨.int k, .int k, fun _ => rfl, fun _ _ h => by cases h; rfl, fun v h => by
  cases v <;> simp [IsKey] at h
  subst h
  exact ⟨_, rfl⟩⟩
abbrev kW : Key Int := xu .i64
abbrev ab3 : Key Int := xu .i32
def ab4 : Key ByteArray := ⟨.string, .string, fun _ => trivial, fun _ _ h => by cases h; rfl, fun v h => by
  cases v <;> simp [IsKey] at h
  exact ⟨_, rfl⟩⟩
section
variable {α : Type} {K : Key α} {f : α → Option Value} {es : Array MapEntry} {clock : Nat}
def xJ (K : Key α) (f : α → Option Value) (es : Array MapEntry) (clock : Nat) : Prop :=
  Stamped es clock ∧ (∀ x ∈ es.toList, IsKey K.d x.key) ∧ ∀ a v, f a = some v ↔ ∃ x ∈ es.toList, x.key = K.mk a ∧ x.val = v
def dQ (K : Key α) (b : Nat) (f : α → Option Value) : HP := qJ fun (x : Array MapEntry × Nat) => fact (xJ K f x.1 x.2) • bY b (.map x.1 x.2)
def upd [DecidableEq α] {β : Type} (f : α → Option β) (a : α) (v : β) : α → Option β := fun x => if x = a then some v else f x
theorem xJ.same (h : xJ K f es clock) {x y : MapEntry} (hx : x ∈ es.toList) (hy : y ∈ es.toList) (e : x.key = y.key) : x = y := by
  have hn := h.1.2.2
  rw [List.Nodup, List.pairwise_map] at hn
  exact uD hn hx hy e
where
  uD : ∀ {l : List MapEntry}, l.Pairwise (fun x y => x.key ≠ y.key) → ∀ {x y : MapEntry}, x ∈ l → y ∈ l → x.key = y.key → x = y
    | [], _, _, _, hx, _, _ => by cases hx
    | z :: l, hp, x, y, hx, hy, e => by
      rw [List.pairwise_cons] at hp
      rcases List.mem_cons.1 hx with hx1 | hx1
      · rcases List.mem_cons.1 hy with hy1 | hy1
        · rw [hx1, hy1]
        · exact absurd (by rw [← hx1]; exact e) (hp.1 _ hy1)
      · rcases List.mem_cons.1 hy with hy1 | hy1
        · exact absurd (by rw [← hy1]; exact e.symm) (hp.1 _ hx1)
        · exact uD hp.2 hx1 hy1 e
theorem MO : ∀ {l : List MapEntry}, (l.map (·.born)).Nodup → ∀ {x y : MapEntry}, x ∈ l → y ∈ l → x.born = y.born → x = y
  | [], _, _, _, hx, _, _ => by cases hx
  | z :: l, hp, x, y, hx, hy, e => by
    rw [List.map_cons, List.nodup_cons] at hp
    rcases List.mem_cons.1 hx with hx1 | hx1
    · rcases List.mem_cons.1 hy with hy1 | hy1
      · rw [hx1, hy1]
      · exact absurd (List.mem_map.2 ⟨y, hy1, by rw [← hx1]; exact e.symm⟩) hp.1
    · rcases List.mem_cons.1 hy with hy1 | hy1
      · exact absurd (List.mem_map.2 ⟨x, hx1, by rw [← hy1]; exact e⟩) hp.1
      · exact MO hp.2 hx1 hy1 e
theorem xJ.find (h : xJ K f es clock) (a : α) : (Instr.findNow K.d (K.mk a) es.toList 0 = some none ∧ f a = none ∧ ∀ x ∈ es.toList, x.key ≠ K.mk a) ∨
    ∃ j e, Instr.findNow K.d (K.mk a) es.toList 0 = some (some (j, e.val)) ∧ es.toList[j]? = some e ∧ e.key = K.mk a ∧ f a = some e.val := by
  rcases findNow_spec (K.key a) es.toList 0 h.2.1 with ⟨h1, h2⟩ | ⟨j, e, h1, h2, h3⟩
  · refine .inl ⟨h1, ?_, h2⟩
    cases hf : f a with
    | none => rfl
    | some v =>
      obtain ⟨x, hx, hk, _⟩ := (h.2.2 a v).1 hf
      exact absurd hk (h2 x hx)
  · refine .inr ⟨j, e, by simpa using h1, h2, h3, (h.2.2 a e.val).2 ⟨e, List.mem_of_getElem? h2, h3, rfl⟩⟩
theorem I7 (K : Key α) : xJ K (fun _ => none) #[] 0 := ⟨stamped_empty 0, by simp, by simp⟩
end
section
variable {α : Type} {K : Key α} {f : α → Option Value} {es : Array MapEntry} {clock : Nat} {P : Program} {L : List (Nat × Value)} {w w0 : World} {ty : TypeId} {x y z : Operand} {F : HP} {b it n : Nat} {a : α} {S : List α}
theorem aB.map (H : aB w0 w (dQ K b f • F)) : ∃ es clock, xJ K f es clock ∧ aB w0 w (bY b (.map es clock) • F) := by
  obtain ⟨⟨es, clock⟩, H⟩ := H.lg
  obtain ⟨h, H⟩ := H.flat.fact
  exact ⟨es, clock, h, H⟩
theorem aB.Gw (h : xJ K f es clock) (H : aB w0 w (bY b (.map es clock) • F)) : aB w0 w (dQ K b f • F) := aB.gJ (es, clock) (aB.deep (aB.jL h H))
theorem I8 {t kt et : TypeId} {zv : Value} (ok : Bool) (h : xJ K f es clock) (hb : w.heap[b]? = some (.map es clock)) (ht : P.underlying t = some (.map kt et)) (hk : P.underlying kt = some K.d) (hz : (zeroValue et).run P w = .ok zv w) :
    (Instr.lookup t (.map (some b)) (K.mk a) ok).run P w = .ok (if ok then .tuple #[(f a).getD zv, .bool (f a).isSome] else (f a).getD zv) w := by
  rcases h.find a with ⟨h1, h2, _⟩ | ⟨j, e, h1, h2, h3, h4⟩
  · simp [Instr.lookup, run_underlying ht, MapKept.run_getObj_map hb, MapKept.run_checkKey hk (K.key a), MapKept.run_findKey hk h1, hz, Result.andThen, h2]
  · simp [Instr.lookup, run_underlying ht, MapKept.run_getObj_map hb, MapKept.run_checkKey hk (K.key a), MapKept.run_findKey hk h1, Result.andThen, h4]
theorem I9 {t kt et : TypeId} {zv : Value} (H : aB w0 w (dQ K b f • F)) (ht : P.underlying t = some (.map kt et)) (hk : P.underlying kt = some K.d) (hz : ∀ w, (zeroValue et).run P w = .ok zv w)
    (hx : ev L x = some (.map (some b))) (hy : ev L y = some (K.mk a)) : Val P L (.lookup t x y false) ty w ((f a).getD zv) w := fun ρ hρ _ _ _ _ => by
  obtain ⟨es, clock, h, H⟩ := H.map
  simp only [execOp, hρ _ _ hx, hρ _ _ hy, Sem.run_bind]
  rw [I8 false h H.get.2 ht hk (hz w)]
  rfl
theorem Ja {t kt et : TypeId} {zv : Value} (H : aB w0 w (dQ K b f • F)) (ht : P.underlying t = some (.map kt et)) (hk : P.underlying kt = some K.d) (hz : ∀ w, (zeroValue et).run P w = .ok zv w)
    (hx : ev L x = some (.map (some b))) (hy : ev L y = some (K.mk a)) : Val P L (.lookup t x y true) ty w (.tuple #[(f a).getD zv, .bool (f a).isSome]) w := fun ρ hρ _ _ _ _ => by
  obtain ⟨es, clock, h, H⟩ := H.map
  simp only [execOp, hρ _ _ hx, hρ _ _ hy, Sem.run_bind]
  rw [I8 true h H.get.2 ht hk (hz w)]
  rfl
theorem iO {t : TypeId} (K : Key α) (H : aB w0 w F) : rH P L (.makeMap t none) ty w fun v w' => ∃ b, v = .map (some b) ∧ aB w0 w' (dQ K b (fun _ => none) • F) := by
  refine ni (v := .map (some w.heap.size)) (w' := w.alloc (.map #[] 0)) ?_ ⟨_, rfl, aB.Gw (I7 K) (H.alloc _)⟩
  intro ρ hρ d pos lC g
  simp only [execOp, Sem.run_bind, Option.map_none]
  rfl
theorem Jb {o : Obj} {b : Nat} (h : w.heap[b]? = some o) (o' : Obj) : ({ w with heap := w.heap.setIfInBounds b o' } : World).heap[b]? = some o' ∧ ∀ k, k ≠ b → ({ w with heap := w.heap.setIfInBounds b o' } : World).heap[k]? = w.heap[k]? := by
  have hlt := lt_of_block h
  exact ⟨by simp [hlt], fun k hk => by simp [Ne.symm hk]⟩
theorem aB.setB {o : Obj} (H : aB w0 w (bY b o • F)) (o' : Obj) : aB w0 (ChangeMaps.setBlock w b o') (bY b o' • F) :=
  aB.turn (w := w) (w' := ChangeMaps.setBlock w b o') H rfl rfl rfl (by simp [ChangeMaps.setBlock]) (Jb H.get.2 o').1 fun k hk _ => (Jb H.get.2 o').2 k hk
theorem sD [DecidableEq α] {t kt et : TypeId} {v : Value} (H : aB w0 w (dQ K b f • F)) (ht : P.underlying t = some (.map kt et)) (hk : P.underlying kt = some K.d)
    (hx : ev L x = some (.map (some b))) (hy : ev L y = some (K.mk a)) (hz : ev L z = some v) : rH P L (.mapUpdate t x y z) ty w fun _ w' => aB w0 w' (dQ K b (upd f a v) • F) := by
  obtain ⟨es, clock, h, H⟩ := H.map
  have hb := H.get.2
  rcases h.find a with ⟨h1, h2, h3⟩ | ⟨j, e, h1, h2, h3, h4⟩
  · have hrun : (Instr.mapUpdate t (.map (some b)) (K.mk a) v).run P w = .ok () (ChangeMaps.setBlock w b (.map (es.push { key := K.mk a, val := v, born := clock }) (clock + 1))) := by
      simp [ChangeMaps.setBlock, Instr.mapUpdate, run_underlying ht, MapKept.run_getObj_map hb, MapKept.run_checkKey hk (K.key a), MapKept.run_findKey hk h1, MapKept.run_setObj_map _ hb, Result.andThen]
    refine CB (w' := ChangeMaps.setBlock w b (.map (es.push { key := K.mk a, val := v, born := clock }) (clock + 1))) (fun ρ hρ d pos lC g => ?_) (aB.Gw (es := es.push { key := K.mk a, val := v, born := clock }) (clock := clock + 1) ⟨stamped_push h.1 h3, ?_, ?_⟩ (H.setB _))
    · simp only [execOp, hρ _ _ hx, hρ _ _ hy, hρ _ _ hz, Sem.run_bind]
      rw [hrun]; rfl
    · intro q hq
      simp only [Array.toList_push, List.mem_append, List.mem_singleton] at hq
      rcases hq with hq | rfl
      · exact h.2.1 q hq
      · exact K.key a
    · intro c u
      simp only [Array.toList_push, List.mem_append, List.mem_singleton, upd]
      by_cases hc : c = a
      · subst hc
        rw [if_pos rfl]
        constructor
        · intro hu; cases hu; exact ⟨_, .inr rfl, rfl, rfl⟩
        · rintro ⟨q, hq | rfl, hqk, QG⟩
          · exact absurd hqk (h3 q hq)
          · rw [← QG]
      · rw [if_neg hc, h.2.2 c u]
        constructor
        · rintro ⟨q, hq, hqk, QG⟩; exact ⟨q, .inl hq, hqk, QG⟩
        · rintro ⟨q, hq | rfl, hqk, QG⟩
          · exact ⟨q, hq, hqk, QG⟩
          · exact absurd (K.inj _ _ hqk).symm hc
  · have hj : es[j]? = some e := by simpa using h2
    have hrun : (Instr.mapUpdate t (.map (some b)) (K.mk a) v).run P w = .ok () (ChangeMaps.setBlock w b (.map (es.modify j fun e => { e with key := K.mk a, val := v }) clock)) := by
      simp [ChangeMaps.setBlock, Instr.mapUpdate, run_underlying ht, MapKept.run_getObj_map hb, MapKept.run_checkKey hk (K.key a), MapKept.run_findKey hk h1, hj, h3, MapKept.run_keyThatStays (K.key a), MapKept.run_setObj_map _ hb, Result.andThen]
    have hkey : ∀ e', es[j]? = some e' → ({ e' with key := K.mk a, val := v } : MapEntry).key = e'.key := fun e' he' => by rw [hj] at he'; cases he'; exact h3.symm
    have hst : Stamped (es.modify j fun e => { e with key := K.mk a, val := v }) clock := stamped_modify h.1 _ _ (fun _ _ => rfl) (fun e' _ he' => hkey e' he')
    have hmem : ∀ q, q ∈ (es.modify j fun e => { e with key := K.mk a, val := v }).toList ↔ (q = { e with key := K.mk a, val := v } ∨ q ∈ es.toList ∧ q.key ≠ K.mk a) := by
      intro q
      have hee : e ∈ es.toList := List.mem_of_getElem? h2
      constructor
      · intro hq
        obtain ⟨i, hi⟩ := List.getElem?_of_mem hq
        rw [Array.getElem?_toList, Array.getElem?_modify] at hi
        by_cases hij : j = i
        · subst hij
          rw [if_pos rfl, hj] at hi
          exact .inl (by simpa using hi.symm)
        · rw [if_neg hij] at hi
          have hqm : q ∈ es.toList := Array.mem_toList_iff.2 (Array.mem_of_getElem? hi)
          refine .inr ⟨hqm, fun hqk => ?_⟩
          have he : q = e := h.same hqm hee (hqk.trans h3.symm)
          subst he
          have hn := h.1.2.1
          have h5 : (es.toList.map (·.born))[i]? = some q.born := by rw [List.getElem?_map, Array.getElem?_toList, hi]; rfl
          have h6 : (es.toList.map (·.born))[j]? = some q.born := by rw [List.getElem?_map, h2]; rfl
          have hlt : i < (es.toList.map (·.born)).length := (List.getElem?_eq_some_iff.1 h5).1
          have hlt2 : j < (es.toList.map (·.born)).length := (List.getElem?_eq_some_iff.1 h6).1
          exact hij ((List.getElem?_inj hlt2 hn).1 (h6.trans h5.symm))
      · rintro (rfl | ⟨hq, hqk⟩)
        · apply List.mem_of_getElem? (i := j)
          rw [Array.getElem?_toList, Array.getElem?_modify, if_pos rfl, hj]; rfl
        · obtain ⟨i, hi⟩ := List.getElem?_of_mem hq
          have hij : j ≠ i := by
            rintro rfl
            rw [h2] at hi; cases hi
            exact hqk h3
          apply List.mem_of_getElem? (i := i)
          rw [Array.getElem?_toList, Array.getElem?_modify, if_neg hij]
          rwa [Array.getElem?_toList] at hi
    refine CB (w' := ChangeMaps.setBlock w b (.map (es.modify j fun e => { e with key := K.mk a, val := v }) clock)) (fun ρ hρ d pos lC g => ?_) (aB.Gw (es := es.modify j fun e => { e with key := K.mk a, val := v }) (clock := clock) ⟨hst, isKey_modify h.2.1 _ _ hkey, ?_⟩ (H.setB _))
    · simp only [execOp, hρ _ _ hx, hρ _ _ hy, hρ _ _ hz, Sem.run_bind]
      rw [hrun]; rfl
    · intro c u
      simp only [hmem, upd]
      by_cases hc : c = a
      · subst hc
        rw [if_pos rfl]
        constructor
        · intro hu; cases hu; exact ⟨_, .inl rfl, rfl, rfl⟩
        · rintro ⟨q, rfl | ⟨hq, hqn⟩, hqk, QG⟩
          · rw [← QG]
          · exact absurd hqk hqn
      · rw [if_neg hc, h.2.2 c u]
        constructor
        · rintro ⟨q, hq, hqk, QG⟩
          exact ⟨q, .inr ⟨hq, fun hqa => hc (K.inj _ _ (hqk.symm.trans hqa))⟩, hqk, QG⟩
        · rintro ⟨q, rfl | ⟨hq, hqn⟩, hqk, QG⟩
          · exact absurd (K.inj _ _ hqk).symm hc
          · exact ⟨q, hq, hqk, QG⟩
def VG (K : Key α) (f : α → Option Value) (es : Array MapEntry) (clock : Nat) (seen : Array Nat) (S : List α) (n : Nat) : Prop :=
  xJ K f es clock ∧ (∃ xs : List MapEntry, (∀ x ∈ xs, x ∈ es.toList) ∧ seen.toList = xs.map (·.born) ∧ xs.map (·.key) = S.map K.mk) ∧ (leftOf es seen).size = n
def zf (K : Key α) (b it : Nat) (f : α → Option Value) (S : List α) (n : Nat) : HP := qJ fun (x : Array MapEntry × Nat × Array Nat) => fact (VG K f x.1 x.2.1 x.2.2 S n) • bY it (.mapIter (some b) x.2.1 x.2.2 x.2.1) • bY b (.map x.1 x.2.1)
theorem aB.QH (H : aB w0 w (zf K b it f S n • F)) : ∃ es clock seen, VG K f es clock seen S n ∧ aB w0 w (bY it (.mapIter (some b) clock seen clock) • bY b (.map es clock) • F) := by
  obtain ⟨⟨es, clock, seen⟩, H⟩ := H.lg
  obtain ⟨h, H⟩ := H.flat.fact
  exact ⟨es, clock, seen, h, H.flat⟩
theorem aB.DK {seen : Array Nat} (h : VG K f es clock seen S n) (H : aB w0 w (bY it (.mapIter (some b) clock seen clock) • bY b (.map es clock) • F)) : aB w0 w (zf K b it f S n • F) :=
  aB.gJ (es, clock, seen) (aB.deep (aB.jL h (H.of_eq (by ac_rfl))))
theorem aB.Fa (H : aB w0 w (zf K b it f S n • F)) : aB w0 w (dQ K b f • F) := by
  obtain ⟨es, clock, seen, h, H⟩ := H.QH
  exact aB.Gw h.1 H.right
theorem AO {t kt et : TypeId} (H : aB w0 w (dQ K b f • F)) (ht : P.underlying t = some (.map kt et)) (hx : ev L x = some (.map (some b))) :
    rH P L (.range t x) ty w fun v w' => ∃ it n, v = .pointer (some ⟨it, 0, none⟩) ∧ aB w0 w' (zf K b it f [] n • F) := by
  obtain ⟨es, clock, h, H⟩ := H.map
  refine ni (v := .pointer (some ⟨w.heap.size, 0, none⟩)) (w' := w.alloc (.mapIter (some b) clock #[] clock)) ?_ ⟨_, _, rfl, aB.DK ⟨h, ⟨[], by simp, rfl, rfl⟩, rfl⟩ (H.alloc _)⟩
  intro ρ hρ d pos lC g
  simp only [execOp, hρ _ _ hx, Sem.run_bind]
  rw [run_range_map w t kt et b es clock ht H.get.2]
  rfl
def XO (K : Key α) : Option (α × Value) → Value
  | some (a, u) => .tuple #[.bool true, K.mk a, u]
  | none => .tuple #[.bool false]
def ZF (f : α → Option Value) (S : List α) (n : Nat) (S' : List α) (n' : Nat) : Option (α × Value) → Prop
  | some (a, u) => f a = some u ∧ a ∉ S ∧ n' < n ∧ S' = S ++ [a]
  | none => S' = S ∧ n' = n ∧ ∀ a u, f a = some u → a ∈ S
theorem TQ {es : Array MapEntry} {seen : Array Nat} {e : MapEntry} (he : e ∈ (leftOf es seen).toList) : (leftOf es (seen.push e.born)).size < (leftOf es seen).size := by
  unfold leftOf at *
  rw [Array.toList_filter, List.mem_filter] at he
  have e1 : ∀ q : MapEntry → Bool, (es.filter q).size = (es.toList.filter q).length := fun q => by rw [← Array.toList_filter, Array.length_toList]
  rw [e1, e1]
  refine filter_lt _ _ (fun x hx => ?_) e he.2 ?_ es.toList he.1
  · simp only [Bool.not_eq_true', Array.contains_push, Bool.or_eq_false_iff] at hx ⊢
    exact hx.1
  · simp
theorem DL (H : aB w0 w (zf K b it f S n • F)) (hx : ev L x = some (.pointer (some ⟨it, 0, none⟩))) :
    rH P L (.next x false) ty w fun v w' => ∃ o S' n', v = XO K o ∧ ZF f S n S' n' o ∧ aB w0 w' (zf K b it f S' n' • F) := by
  obtain ⟨es, clock, seen, ⟨hm, ⟨xs, hxs, hse, hS⟩, hn⟩, H⟩ := H.QH
  have hr := H.get.2
  have hb := H.swap.get.2
  rcases run_next_at (P := P) w ty it b clock clock seen es clock hr hb hm.1.1 (Nat.le_refl _) with ⟨h0, hrun⟩ | ⟨e, he, w1, hw1, hrun⟩
  · refine ni (v := XO K none) (w' := w) (fun ρ hρ d pos lC g => ?_) ⟨none, S, n, rfl, ⟨rfl, rfl, fun a u ha => ?_⟩, aB.DK ⟨hm, ⟨xs, hxs, hse, hS⟩, hn⟩ H⟩
    · simp only [execOp, hρ _ _ hx, Sem.run_bind]
      rw [hrun]; rfl
    · obtain ⟨y, hy, hyk, _⟩ := (hm.2.2 a u).1 ha
      have hys : seen.contains y.born = true := by
        cases hc : seen.contains y.born with
        | true => rfl
        | false =>
          have hyl : y ∈ (leftOf es seen).toList := by unfold leftOf; rw [Array.toList_filter, List.mem_filter]; exact ⟨hy, by rw [hc]; rfl⟩
          have := List.length_pos_of_mem hyl
          rw [Array.length_toList] at this
          omega
      have XP : y.born ∈ seen.toList := by simpa using hys
      rw [hse] at XP
      obtain ⟨q, hq, hqb⟩ := List.mem_map.1 XP
      have hqy : q = y := MO hm.1.2.1 (hxs q hq) hy hqb
      subst hqy
      have : K.mk a ∈ S.map K.mk := by rw [← hS]; exact List.mem_map.2 ⟨q, hq, hyk⟩
      obtain ⟨c, hc, hce⟩ := List.mem_map.1 this
      rw [← K.inj _ _ hce]; exact hc
  · have hel : e ∈ es.toList ∧ seen.contains e.born = false := by
      have := he
      unfold leftOf at this
      rw [Array.toList_filter, List.mem_filter] at this
      exact ⟨this.1, by simpa using this.2⟩
    obtain ⟨a, ha⟩ := K.onto e.key (hm.2.1 e hel.1)
    have hfa : f a = some e.val := (hm.2.2 a e.val).2 ⟨e, hel.1, ha.symm, rfl⟩
    have hns : a ∉ S := fun hs => by
      have : K.mk a ∈ S.map K.mk := List.mem_map.2 ⟨a, hs, rfl⟩
      rw [← hS] at this
      obtain ⟨q, hq, hqk⟩ := List.mem_map.1 this
      have hqe : q = e := hm.same (hxs q hq) hel.1 (hqk.trans ha)
      subst hqe
      have h9 : q.born ∈ seen.toList := by rw [hse]; exact List.mem_map.2 ⟨q, hq, rfl⟩
      have h8 : seen.contains q.born = true := by simpa using h9
      rw [hel.2] at h8; cases h8
    have hval : Val P L (.next x false) ty w (XO K (some (a, e.val))) (ChangeMaps.setBlock w1 it (.mapIter (some b) clock (seen.push e.born) clock)) := fun ρ hρ d pos lC g => by
      simp only [execOp, hρ _ _ hx, Sem.run_bind]
      rw [hrun]
      simp only [XO, ha]
      rfl
    have hheap : w1.heap = w.heap := by rcases hw1 with rfl | rfl <;> rfl
    have hr1 : w1.heap[it]? = some (.mapIter (some b) clock seen clock) := by rw [hheap]; exact hr
    refine ni hval ⟨some (a, e.val), S ++ [a], (leftOf es (seen.push e.born)).size, rfl, ⟨hfa, hns, by rw [← hn]; exact TQ he, rfl⟩, aB.DK (seen := seen.push e.born) ⟨hm, ⟨xs ++ [e], ?_, ?_, ?_⟩, rfl⟩ (aB.setB (w := w1) (o := .mapIter (some b) clock seen clock) ?_ _)⟩
    · intro q hq
      rcases List.mem_append.1 hq with hq | hq
      · exact hxs q hq
      · rw [List.mem_singleton.1 hq]; exact hel.1
    · rw [Array.toList_push, hse, List.map_append]; rfl
    · rw [List.map_append, List.map_append, hS]; simp [ha]
    · rcases hw1 with rfl | rfl
      · exact H
      · exact H.drew
theorem UO {o : Option (α × Value)} (hx : ev L x = some (XO K o)) : Val P L (.extract x 0) ty w (.bool o.isSome) w := by
  cases o with
  | none => exact qG hx rfl
  | some p => obtain ⟨a, u⟩ := p; exact qG hx rfl
theorem MP {u : Value} (H : aB w0 w (zf K b it f (S ++ [a]) n • F)) (hf : f a = some u) (hx : ev L x = some (.pointer (some ⟨it, 0, none⟩))) : Val P L (.entry x) ty w (.tuple #[K.mk a, u]) w := by
  obtain ⟨es, clock, seen, ⟨hm, ⟨xs, hxs, hse, hS⟩, hn⟩, H⟩ := H.QH
  intro ρ hρ d pos lC g
  have hne : xs ≠ [] := by
    rintro rfl
    have := congrArg List.length hS
    simp at this
  obtain ⟨ys, e, rfl⟩ : ∃ ys e, xs = ys ++ [e] := ⟨xs.dropLast, xs.getLast hne, (List.dropLast_concat_getLast hne).symm⟩
  have he : e ∈ es.toList := hxs e (by simp)
  have hk : e.key = K.mk a := by
    rw [List.map_append, List.map_append] at hS
    have := List.append_inj_right' hS rfl
    simpa using this
  have hv : e.val = u := by
    have h9 := (hm.2.2 a e.val).2 ⟨e, he, hk, rfl⟩
    rw [hf] at h9; cases h9; rfl
  have hsp : seen = (ys.map (·.born)).toArray.push e.born := by
    apply Array.ext'
    rw [hse]; simp
  have hr := H.get.2
  rw [hsp] at hr
  simp only [execOp, hρ _ _ hx, Sem.run_bind]
  rw [run_entry_at w it b clock _ es clock e hr H.swap.get.2 he hm.1.2.1, hk, hv]
  rfl
end
end Go.Proofs.YtddekefihgejoaaGreatDoor
end
section
namespace Go.Proofs.YtddekefihgejoaaGreatDoor
open Go.RowKit
open _root_.Go.Proofs.Tryz
def xK (c : Nat) (G : List (List fB)) (N : List fB) (k : Nat) : HP := qJ fun (x : Value × List (Value × List dn)) => fact (x.2.map (fun g => g.2.map dn.says) = Gt N ++ G.reverse.take k) • bY c (.cells #[x.1] 180 (0, 0)) • yV x.1 x.2
theorem rev_succ {G : List (List fB)} {k : Nat} (hk : k < G.length) : G.reverse.take (k + 1) = G.reverse.take k ++ [G.getD (G.length - (k + 1)) []] := by
  rw [List.take_succ_eq_append_getElem (by simpa using hk)]
  congr 1
  rw [List.getElem_reverse, List.getD_eq_getElem?_getD, List.getElem?_eq_getElem (by omega)]
  have e : G.length - 1 - k = G.length - (k + 1) := by omega
  simp only [Option.getD_some, e]
section
variable {w0 w : World} {F : HP} {p c k : Nat} {G : List (List fB)} {N : List fB} {op : Int} {v u : Value} {es fs : List dn} {gs hs : List (Value × List dn)}
theorem aB.Jc (H : aB w0 w (xK c G N k • F)) : ∃ u hs, hs.map (fun g => g.2.map dn.says) = Gt N ++ G.reverse.take k ∧ hs.length ≤ G.length + 1 ∧ aB w0 w (bY c (.cells #[u] 180 (0, 0)) • Row 67 1 u hs.length (hs.map (·.1)) • nM hs • F) := by
  obtain ⟨⟨u, hs⟩, H⟩ := H.lg
  obtain ⟨h, H⟩ := H.flat.fact
  refine ⟨u, hs, h, ?_, (H.flat.swap.Vr).f3⟩
  have := congrArg List.length h
  have := Qy N
  simp only [List.length_map, List.length_append, List.length_take, List.length_reverse] at *
  omega
theorem aB.DN (h : hs.map (fun g => g.2.map dn.says) = Gt N ++ G.reverse.take k) (H : aB w0 w (bY c (.cells #[u] 180 (0, 0)) • yV u hs • F)) : aB w0 w (xK c G N k • F) :=
  aB.gJ (u, hs) (aB.deep (aB.jL h H.deep))
theorem Oq (H : aB w0 w F) (hv : v.oneCell' = true) : fE prog 164 #[v] w fun v' w' => ∃ b, v' = .func (.func 176) #[] #[.pointer (some ⟨b, 0, none⟩)] ∧ aB w0 w' (bY b (.cells #[v] 180 (0, 0)) • F) := by
 refine gy func164 ntmps164 ?_
 dsimp only [aY, Nat.reduceAdd]
 refine ay (ah (gq (iw (l := [_]) H rfl (by first | rfl | exact tK (by first | rfl | assumption))) ?_))
 rintro _ w1 ⟨b1, rfl, H1⟩
 refine aV rfl (aA (aj (ay (ah (aU (qN rfl rfl) (aV rfl (aA (aj (aJ (aQ (.inl rfl) results164 rfl ?_))))))))))
 exact ⟨_, rfl, H1⟩
theorem KL (b : Nat) : Iter prog w0 (.func (.func 176) #[] #[.pointer (some ⟨b, 0, none⟩)]) (bY b (.cells #[v] 180 (0, 0)) • Row 67 1 v gs.length (gs.map (·.1)) • nM gs) gs.length
  (fun k vs A => ∃ gl vw, gs.getD (gs.length - (k + 1)) default = (gl, vw) ∧ vs = [.int .i64 ((gs.length - (k + 1) : Nat) : Int), gl] ∧ A = zC gl vw) := by
 intro l J X w hy H
 refine ⟨176, [], [.pointer (some ⟨b, 0, none⟩)], _, _, rfl, func176, rfl, rfl, ?_⟩
 have H1 : aB w0 w (bY b (.cells #[v] 180 (0, 0)) • Row 67 1 v gs.length (gs.map (·.1)) • nM gs • J 0) := H.of_eq (by ac_rfl)
 obtain ⟨a, c, hv, hc1, hc2, _⟩ := (H1.swap.aO).form
 subst hv
 simp only [List.nil_append, List.cons_append]
 refine gy func176 ntmps176 ?_
 dsimp only [aY, Nat.reduceAdd]
 refine ay (ah (dO underlying180 rfl (H1).get.2 rfl (aU (fM ((H1.f2).aO) underlying180 rfl) (aU (iW rfl rfl (by omega)) (aV rfl (aA (aj (bf ?_))))))))
 refine fH [(0, _), (1, _)] (fun (k : Nat) => [(3, .int .i64 ((k : Int) - 1))]) (fun (k : Nat) W => k ≤ gs.length ∧ aB w0 W (bY b (.cells #[.slice a gs.length c] 180 (0, 0)) • Row 67 1 (.slice a gs.length c) gs.length (gs.map (·.1)) • nM gs • J (gs.length - k))) (fun (k : Nat) => k) (gs.length) (Sub.cons rfl (Sub.cons rfl (Sub.nil _))) (Sub.cons rfl (Sub.nil _)) ⟨by omega, by rw [Nat.sub_self]; exact H1⟩ ?_
 rintro k w1 ⟨hk, HL⟩
 dsimp only [List.cons_append, List.nil_append]
 refine ay (ay (ah (aN rfl (aU (vY rfl rfl) (aA (aj (aP rfl (fun h1 => ?_) (fun h1 => ?_))))))))
 ·(try simp only [aI] at h1)
  try (exfalso; first | contradiction | omega)
  all_goals
   refine aT (aj (ay (bf (ay ?_))))
   obtain ⟨m, rfl⟩ : ∃ m, k = m + 1 := ⟨k - 1, by omega⟩
   rw [show (((m + 1 : Nat) : Int) - 1) = (m : Int) from by omega]
   have hkl : m < gs.length := by omega
   refine ah (aN rfl (aN rfl (dO underlying180 rfl (HL).get.2 rfl (aN rfl ?_))))
   obtain ⟨bv, ov, cv, ev⟩ := Rd.lD ((HL.f2).aO) (by omega)
   cases ev
   refine aU (cZ underlying180 sizeOf67 rfl rfl (by omega)) ?_
   refine aU (fJ (bW underlying67 rfl) rfl (by first | exact Rd.pX ((HL.f2).aO) (by omega) | exact Rd.Es ((HL.f2).aO) (by omega) | exact Rd.CY ((HL.f2).aO) (by omega))) ?_
   rw [show (gs.map (·.1)).getD m undef = (gs.getD m default).1 from by simp [List.getD_eq_getElem?_getD, hkl]]
   obtain ⟨gl, vw, hg⟩ : ∃ gl vw, gs.getD m default = (gl, vw) := ⟨_, _, rfl⟩
   rw [hg]
   have ZG := HL.f3
   have ZH := ZG.Gq hkl hg
   refine gq (BU rfl rfl (hy (gs.length - (m + 1)) (by omega) _ _ ⟨gl, vw, by rw [show gs.length - (gs.length - (m + 1) + 1) = m from by omega]; exact hg, by rw [show gs.length - (gs.length - (m + 1) + 1) = m from by omega], rfl⟩ (nM gs • Row 67 1 (.slice (some ⟨bv, ov, none⟩) gs.length c) gs.length (gs.map (·.1)) • bY b (.cells #[.slice (some ⟨bv, ov, none⟩) gs.length c] 180 (0, 0))) _ (ZH.of_eq (by ac_rfl))).bool) ?_
   rintro _ w4 ⟨t, rfl, ht1, ht2⟩
   refine aU (kJ rfl) (aA (aj (aP rfl (fun h2 => ?_) (fun h2 => ?_))))
   ·(try simp only [aI] at h2)
    try (exfalso; first | contradiction | omega)
    all_goals
     have HX := ht2 (by simpa using h2)
     refine aJ (aX (aK (aK (aX (fU (.inl rfl) results176 ?_)))))
     exact .inr (HX.of_eq (by ac_rfl))
   ·(try simp only [aI] at h2)
    try (exfalso; first | contradiction | omega)
    all_goals
     have HN : aB w0 w4 (bY b (.cells #[.slice (some ⟨bv, ov, none⟩) gs.length c] 180 (0, 0)) • Row 67 1 (.slice (some ⟨bv, ov, none⟩) gs.length c) gs.length (gs.map (·.1)) • nM gs • J (gs.length - m)) := by
      have h9 := ht1 (by simpa using h2)
      rw [show gs.length - (m + 1) + 1 = gs.length - m from by omega] at h9
      exact h9.of_eq (by ac_rfl)
     refine aT (aH (aj (ah (aN rfl (aU (iW rfl rfl (by omega)) (aV rfl (aA ?_)))))))
     refine dA (m) ?_ ?_ ?_ ?_
     ·exact (Sub.cons rfl (Sub.nil _))
     ·exact (Sub.cons rfl (Sub.cons rfl (Sub.nil _)))
     ·(try dsimp only)
      first | done | exact ⟨by omega, HN.f3.f3.f3⟩
     ·(try dsimp only); omega
 ·(try simp only [aI] at h1)
  try (exfalso; first | contradiction | omega)
  all_goals
   refine dL (aW (aW (bD (fU (.inr rfl) results176 ?_))))
   obtain rfl : k = 0 := by omega
   rw [Nat.sub_zero] at HL
   exact .inl (HL.of_eq (by ac_rfl))
theorem BH (H : aB w0 w (dV p G N op • F)) : fE prog 129 #[.pointer (some ⟨p, 0, none⟩)] w fun v w' => ∃ c, v = .func (.func 165) #[] #[.pointer (some ⟨c, 0, none⟩)] ∧ aB w0 w' (xK c G N G.length • dV p G N op • F) := by
 refine gy func129 ntmps129 ?_
 dsimp only [aY, Nat.reduceAdd]
 refine ay (ah (aV rfl (aA (aj (ay (ah (gq (bU (l := [_]) H zeroValue180 rfl) ?_)))))))
 rintro _ w1 ⟨b1, rfl, H1⟩
 refine aA (aj (ay (ay (ah (aN rfl (dw rfl func161 (iE H1.f2) ?_))))))
 rintro _ _ ⟨rfl, rfl⟩
 refine aU (kJ rfl) ?_
 obtain ⟨vU, sV, jv, jc, iI, oz, mg, zT, zU, ED, kH⟩ := (H1.f2).pU
 have hLn : jc.length ≤ 16384 := by omega
 have hBn := I5 mg iI.2.2.2.2.2
 refine aA (aj (aP rfl (fun h1 => ?_) (fun h => by exfalso; (try simp only [aI] at h); simp at h)))
 (try simp only [aI] at h1)
 refine rO [(0, _), (3, _)] (fun (_ : Unit) => []) (fun (_ : Unit) W => aB w0 W (xK b1 G N 0 • bY p (.cells #[vU, sV, .int .i64 op, .int .i64 (eH G N : Nat), .bool true] 233 (0, 0)) • Row 67 1 vU jv.length (jv.map (·.1)) • nM jv • Row 202 3 sV jc.length (jc.flatMap dn.enc) • jh jc • F)) (Sub.cons rfl (Sub.cons rfl (Sub.nil _))) ?_ ?_
 ·rintro _ w4 HJ
  dsimp only [List.cons_append, List.nil_append]
  refine ay (ah (aN rfl (bP rfl (bg 0 underlying233 rfl sizeOf231 rfl (bg 0 underlying231 rfl sizeOf180 rfl (dO underlying180 rfl (HJ.f2).get.2 rfl (dw rfl func164 (Oq HJ (Rd.one ((HJ.f3).aO))) ?_)))))))
  rintro _ w5 ⟨bB5, rfl, H5⟩
  refine aA (aj (bf ?_))
  obtain ⟨R6, YV, ZI⟩ := aB.WS (H5.f5.f5.f3.f4)
  refine qc rfl (KL bB5) (fun k => xK b1 G N k • R6) (fact False) (fun _ => fact False) (ZI.f4.f4.f4.f4.f4.f4.f4.g3.comm) (by rfl) ?_ ?_ ?_ ?_
  ·rintro l7 k TI vs7 A7 ⟨gl, vw, hg, rfl, rfl⟩ G7 w7 H7
   try simp only [bH, jd, mZ] at H7
   refine ⟨rfl, ?_⟩
   dsimp only [IY]
   obtain ⟨u, hs, Om, Zw, HI⟩ := (H7.f2).Jc
   have hge : vw.map dn.says = G.getD (G.length - (k + 1)) [] := by
    rw [← zT, ← oz]
    have h9 : (jv.map (fun g => g.2.map dn.says)).getD (jv.length - (k + 1)) [] = (jv.getD (jv.length - (k + 1)) default).2.map dn.says := by simp [List.getD_eq_getElem?_getD, show jv.length - (k + 1) < jv.length by omega]
    rw [h9, hg]
   have hgm : G.getD (G.length - (k + 1)) [] ∈ G := ug (by omega)
   have hBg := I5 hge (iI.2.2.2.2.1 _ hgm)
   have XK : vw.length ≤ 16384 := by
    have h8 := iI.2.1
    unfold eH at h8
    have h7 := congrArg List.length hge
    rw [List.length_map] at h7
    have h6 := Gs hgm
    omega
   refine ah (aV rfl (aA ?_))
   refine Gn (HI.g5) ?_
   intro G8 w8 H8
   try simp only [bH] at H8
   refine bf ?_
   have XQ := H8.drew
   have QI := aB.kp (XQ.f4.f4.f4.f4)
   refine vV [0] QI rfl (gY 0 rfl QI (fun W hW => iH underlying180 rfl ((Kp.h hW)).get.2 rfl) (gQ 1 rfl QI rfl (jk 2 rfl (rP rfl func162 (sW XQ.f4 hBg XK)) ?_)))
   rintro u9 w9 ⟨fs9, ZJ, H9⟩
   obtain ⟨es2, rfl⟩ : ∃ q, q = fs9 := ⟨_, rfl⟩
   have hes2 := ZJ
   have Qg := aB.kp (H9.f6.f6.f6.f6.f6.f6)
   refine bT Qg (fun W hW => (Kp.h hW).right.right.f4.f4.f4) ?_
   refine jk 3 rfl (iK (vs := [_]) H9 underlying180 sizeOf67 zeroValue67 rfl rfl rfl (by decide) (aC (by first | rfl | exact Rd.one ((H9).aO)) aZ)) ?_
   rintro l10 w10 qH
   have Qq := aB.kp (qH.f7.f7.f7.f7.f7.f7.f7)
   refine bT Qq (fun W hW => (Kp.h hW).right.f6.f6.f6.f6.f6.f6) ?_
   refine jk 4 rfl (fF qH.f6 underlying180 (show (prog.info? 67).map (fun i => (i.zero, i.size, i.bytes)) = some (some (.slice none 0 0), 1, 24) by kernel_rfl) rfl rfl rfl ((qH).aO) (aC (by first | rfl | exact Rd.one ((qH.f2).aO)) aZ) (by omega) (by omega)) ?_
   rintro XI Hr uQ
   have EF := uQ.f2.right
   have yY := aB.kp (EF.f6.f6.f6.f6.f6.f6)
   refine dN yY (by kernel_rfl) ?_
   refine dJ 5 rfl (by kernel_rfl) (aS 0 (l' := [_]) EF.f5 sizeOf180 rfl rfl (by first | rfl | exact Rd.one ((EF).aO)) rfl rfl) ?_
   rintro _ NY xC
   have Dw := aB.kp (xC.f6.f6.f6.f6.f6.f6)
   refine dN Dw (by kernel_rfl) ?_
   refine nT (aH ?_)
   refine xW ?_
   have X := aB.ru (es := es2) (xC.f5.right.f5.f3.f5.f5).deep
   exact (aB.DN (hs := hs ++ [(u9, es2)]) (by rw [List.map_append, Om, rev_succ (by omega), ← hge, ← hes2, List.append_assoc]; rfl) (aB.uo X.swap).swap).deep
  ·rintro D14 NZ yB
   have Qr := yB.ed
   try simp only [bH, jd, mZ] at Qr
   have Vw := Qr.HY
   subst YV
   refine aH (aj (ay (ah (aU (qN rfl rfl) (aV rfl (aA (aj (aJ ?_))))))))
   refine yJ (.inl rfl) (Vw) (fun PY wC => ?_)
   refine ⟨_, SH results129 rfl, ?_⟩
   have hgl : xK b1 G N jv.length = xK b1 G N G.length := by rw [zT]
   rw [hgl] at wC
   have ZK := wC.f7.f7.f5.f5.f7
   have ZL := aB.jl iI oz mg rfl ZK
   exact ⟨_, rfl, ZL.f2.right.f2⟩
  ·rintro D w H; exact absurd H.swap.fact.1 id
  ·rintro id D w H; exact absurd H.swap.fact.1 fun h => h
 ·skip
  refine ay (ah (aN rfl (bP rfl (bg 0 underlying233 rfl sizeOf231 rfl (bg 1 underlying231 rfl sizeOf67 rfl (dO underlying67 rfl (kH).get.2 rfl (aU (fM ((kH.f4).aO) underlying67 rfl) (aU (fZ rfl rfl) (aA (aj (aP rfl (fun h2 => ?_) (fun h2 => ?_))))))))))))
  ·(try simp only [aI] at h2)
   have hN : Gt N = [N] := if_neg (by rintro rfl; exact absurd zU (by simp only [List.length_nil]; omega))
   have UQ := kH.drew
   have xZ := aB.kp (UQ.f6.f6.f6.f6.f6.f6)
   refine vV [0, 5] xZ rfl (gY 0 rfl xZ (fun W hW => iH underlying180 rfl ((Kp.h hW).f6).get.2 rfl) (gQ 1 rfl xZ rfl (iQ 2 rfl xZ rfl (dR 3 rfl xZ 0 underlying233 rfl sizeOf231 rfl (dR 4 rfl xZ 1 underlying231 rfl sizeOf67 rfl (gY 5 rfl xZ (fun W hW => iH underlying67 rfl ((Kp.h hW)).get.2 rfl) (jk 6 rfl (rP rfl func162 (wG UQ.f5.f5 hBn hLn)) ?_)))))))
   rintro u19 PZ ⟨ZM, XR, uY⟩
   obtain ⟨es1, rfl⟩ : ∃ q, q = ZM := ⟨_, rfl⟩
   have hes1 := XR
   have Jd := aB.kp (uY.f8.f8.f8.f8.f8.f8.f8.f8)
   refine bT Jd (fun W hW => (Kp.h hW).right.right.f6.f3.f3.f6.f6.f6) ?_
   refine jk 7 rfl (iK (vs := [_]) uY underlying180 sizeOf67 zeroValue67 rfl rfl rfl (by decide) (aC (by first | rfl | exact Rd.one ((uY).aO)) aZ)) ?_
   rintro XT Sz yD
   have zh := aB.kp (yD.f9.f9.f9.f9.f9.f9.f9.f9.f9)
   refine bT zh (fun W hW => (Kp.h hW).right.f8.f8.f8.f8.f8.f8.f8.f8) ?_
   refine jk 8 rfl (fF (yD.ig none) underlying180 (show (prog.info? 67).map (fun i => (i.zero, i.size, i.bytes)) = some (some (.slice none 0 0), 1, 24) by kernel_rfl) rfl rfl rfl ((yD).aO) (aC (by first | rfl | exact Rd.one ((yD.f2).aO)) aZ) (by omega) (by omega)) ?_
   rintro ZN TA oV
   have BI := oV.f2.right
   have zi := aB.kp (BI.f9.f9.f9.f9.f9.f9.f9.f9.f9)
   refine dN zi (by kernel_rfl) ?_
   refine dJ 9 rfl (by kernel_rfl) (aS 0 (l' := [_]) BI.f9 sizeOf180 rfl rfl (by first | rfl | exact Rd.one ((BI).aO)) rfl rfl) ?_
   rintro _ O7 rV
   have AP := aB.kp (rV.f9.f9.f9.f9.f9.f9.f9.f9.f9)
   refine dN AP (by kernel_rfl) ?_
   have X := aB.ru (es := es1) (rV.f6.f6.f9.f9.f9.f6.f7.f9.f9).deep
   have ZO : aB w0 O7 (xK b1 G N 0 • bY p (.cells #[vU, sV, .int .i64 op, .int .i64 (eH G N : Nat), .bool true] 233 (0, 0)) • Row 67 1 vU jv.length (jv.map (·.1)) • nM jv • Row 202 3 sV jc.length (jc.flatMap dn.enc) • jh jc • F) :=
    aB.DN (hs := [(u19, es1)]) (by rw [hN, ← mg, ← hes1]; rfl) (aB.uo (gs := []) X.IJ.f3.f3.f2).swap
   refine nT ?_
   refine bZ (()) ?_ ?_ ?_
   ·exact (Sub.nil _)
   ·exact (Sub.cons rfl (Sub.cons rfl (Sub.nil _)))
   ·(try dsimp only)
    first | done | exact ZO
  ·(try simp only [aI] at h2)
   have hN : Gt N = [] := if_pos (by rw [← mg, List.eq_nil_of_length_eq_zero (show jc.length = 0 by omega)]; rfl)
   have ZO : aB w0 w1 (xK b1 G N 0 • bY p (.cells #[vU, sV, .int .i64 op, .int .i64 (eH G N : Nat), .bool true] 233 (0, 0)) • Row 67 1 vU jv.length (jv.map (·.1)) • nM jv • Row 202 3 sV jc.length (jc.flatMap dn.enc) • jh jc • F) :=
    aB.DN (hs := []) (by rw [hN]; rfl) ((kH.f5.f5.f5.f5.f5.f6).yX none).swap
   refine aT ?_
   refine bZ (()) ?_ ?_ ?_
   ·exact (Sub.nil _)
   ·exact (Sub.cons rfl (Sub.cons rfl (Sub.nil _)))
   ·(try dsimp only)
    first | done | exact ZO
theorem Je (c : Nat) (hB : ∀ g ∈ xX G N, ∀ e ∈ g, EB e) (hL : ∀ g ∈ xX G N, g.length ≤ 16384) : Iter prog w0 (.func (.func 165) #[] #[.pointer (some ⟨c, 0, none⟩)]) (xK c G N G.length) (xX G N).length
  (fun k vs A => ∃ u, ∃ fs : List dn, fs.map dn.says = (xX G N).getD k [] ∧ vs = [u] ∧ A = EC u fs) := by
 intro l J X w hy H
 refine ⟨165, [], [.pointer (some ⟨c, 0, none⟩)], _, _, rfl, func165, rfl, rfl, ?_⟩
 obtain ⟨v, hs, Om, Zw, H1⟩ := H.comm.Jc
 have XU := Om
 rw [List.take_of_length_le (by simp), ← TL] at Om
 have hlen : hs.length = (xX G N).length := by have := congrArg List.length Om; simpa using this
 obtain ⟨a, d, hv, hc1, hc2, _⟩ := (H1.swap.aO).form
 subst hv
 simp only [List.nil_append, List.cons_append]
 refine gy func165 ntmps165 ?_
 dsimp only [aY, Nat.reduceAdd]
 refine ay (ah (dO underlying180 rfl (H1).get.2 rfl (aU (fM ((H1.f2).aO) underlying180 rfl) (aN rfl (aA (aj (bf ?_)))))))
 refine fH [(0, _), (5, _), (6, _)] (fun (k : Nat) => [(7, .int .i64 (k : Int))]) (fun (k : Nat) W => k ≤ hs.length ∧ aB w0 W (bY c (.cells #[.slice a hs.length d] 180 (0, 0)) • Row 67 1 (.slice a hs.length d) hs.length (hs.map (·.1)) • nM hs • J k)) (fun (k : Nat) => hs.length - k) (0) (Sub.cons rfl (Sub.cons rfl (Sub.cons rfl (Sub.nil _)))) (Sub.cons rfl (Sub.nil _)) ⟨by omega, H1⟩ ?_
 rintro k w1 ⟨hk, HL⟩
 dsimp only [List.cons_append, List.nil_append]
 refine ay (ah (aU (eu rfl rfl) (aA (aj (ay (aP rfl (fun h1 => ?_) (fun h1 => ?_)))))))
 ·(try simp only [aI] at h1)
  try (exfalso; first | contradiction | omega)
  all_goals
   refine aT (aj (ay (bf (ay (ah ?_)))))
   obtain ⟨bv, ov, cv, ev⟩ := Rd.lD ((HL.f2).aO) (by omega)
   cases ev
   refine aU (cZ underlying180 sizeOf67 rfl rfl (by omega)) ?_
   refine aU (fJ (bW underlying67 rfl) rfl (by first | exact Rd.pX ((HL.f2).aO) (by omega) | exact Rd.Es ((HL.f2).aO) (by omega) | exact Rd.CY ((HL.f2).aO) (by omega))) ?_
   have hkl : k < hs.length := by omega
   rw [show (hs.map (·.1)).getD k undef = (hs.getD k default).1 from by simp [List.getD_eq_getElem?_getD, hkl]]
   obtain ⟨gl, vw, hg⟩ : ∃ gl vw, hs.getD k default = (gl, vw) := ⟨_, _, rfl⟩
   rw [hg]
   have ZG := HL.f3
   have ZH := ZG.Gq hkl hg
   have hge : vw.map dn.says = (xX G N).getD k [] := by
    rw [← Om]
    have h9 : (hs.map (fun g => g.2.map dn.says)).getD k [] = (hs.getD k default).2.map dn.says := by simp [List.getD_eq_getElem?_getD, hkl]
    rw [h9, hg]
   have hgm : (xX G N).getD k [] ∈ xX G N := ug (by omega)
   have hBg := I5 hge (hB _ hgm)
   have XK : vw.length ≤ 16384 := by
    have h7 := congrArg List.length hge
    rw [List.length_map] at h7
    have := hL _ hgm
    omega
   refine aV rfl (aA (aj (ay (ah (aN rfl (aN rfl (dw rfl func162 (sW ZH hBg XK) ?_)))))))
   rintro u4 w4 ⟨fs4, ZP, H4⟩
   obtain ⟨es2, rfl⟩ : ∃ q, q = fs4 := ⟨_, rfl⟩
   have hes2 := ZP
   have Hd5 := H4.f3.right
   refine gq (BU rfl rfl (hy k (by omega) _ _ ⟨_, es2, hes2.trans hge, rfl, rfl⟩ (nM hs • Row 67 1 (.slice (some ⟨bv, ov, none⟩) hs.length d) hs.length (hs.map (·.1)) • bY c (.cells #[.slice (some ⟨bv, ov, none⟩) hs.length d] 180 (0, 0))) _ (Hd5.of_eq (by unfold EC; ac_rfl))).bool) ?_
   rintro _ w6 ⟨t, rfl, ht1, ht2⟩
   refine aU (kJ rfl) (aA (aj (aP rfl (fun h2 => ?_) (fun h2 => ?_))))
   ·(try simp only [aI] at h2)
    try (exfalso; first | contradiction | omega)
    all_goals
     have HX := ht2 (by simpa using h2)
     refine aJ (aX (aK (aK (aX (fU (.inl rfl) results165 ?_)))))
     exact .inr (aB.comm (aB.DN (u := .slice (some ⟨bv, ov, none⟩) hs.length d) XU (HX.of_eq (by unfold yV; ac_rfl))))
   ·(try simp only [aI] at h2)
    try (exfalso; first | contradiction | omega)
    all_goals
     have HN : aB w0 w6 (bY c (.cells #[.slice (some ⟨bv, ov, none⟩) hs.length d] 180 (0, 0)) • Row 67 1 (.slice (some ⟨bv, ov, none⟩) hs.length d) hs.length (hs.map (·.1)) • nM hs • J (k + 1)) := by
      have h9 := ht1 (by simpa using h2)
      exact h9.of_eq (by ac_rfl)
     refine aT (aH (aj (ah (aU (dS rfl rfl (by omega)) (aN rfl (aA ?_))))))
     refine dA (k + 1) ?_ ?_ ?_ ?_
     ·exact (Sub.cons rfl (Sub.nil _))
     ·exact (Sub.cons rfl (Sub.cons rfl (Sub.cons rfl (Sub.nil _))))
     ·(try dsimp only)
      first | done | exact ⟨by omega, HN.f3.f3.f3⟩
     ·(try dsimp only); omega
 ·(try simp only [aI] at h1)
  try (exfalso; first | contradiction | omega)
  all_goals
   refine dL (aW (aW (bD (fU (.inr rfl) results165 ?_))))
   obtain rfl : k = hs.length := by omega
   rw [← hlen]
   exact .inl (aB.comm (aB.DN (u := .slice a hs.length d) XU (HL.of_eq (by unfold yV; ac_rfl))))
end
end Go.Proofs.YtddekefihgejoaaGreatDoor
end
