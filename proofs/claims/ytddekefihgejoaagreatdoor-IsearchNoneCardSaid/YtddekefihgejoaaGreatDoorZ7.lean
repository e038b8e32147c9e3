import Derived.Test.YtddekefihgejoaaGreatDoorZ2
import Derived.Test.YtddekefihgejoaaGreatDoorZ6
import Derived.Test.YtddekefihgejoaaGreatDoorZ4
import Derived.Test.YtddekefihgejoaaGreatDoorZ3
import Derived.Test.YtddekefihgejoaaGreatDoorZ5
set_option linter.unusedSimpArgs false
set_option linter.unusedVariables false
/- Texts of mine, joined, their names in short: Ring2 Ring3 RingAny LL Flat Undo1 Undo2 LitS Eds UList. -/
section
namespace Go.Proofs.YtddekefihgejoaaGreatDoor
open Go.RowKit
def Xu (E : List (List Int)) (place : Nat) (way : Int) (l : List Int) : Int × List (List Int) × Nat :=
  if way < 0 ∨ 2 < way then (1, E, place)
  else if 1024 < l.length then (3, E, place)
  else if way ≠ 0 ∧ 0 < E.length then
    if 1024 < l.length + (E.getD 0 []).length then (3, E, place)
    else (0, (if way = 1 then E.getD 0 [] ++ l else l ++ E.getD 0 []) :: E.tail, 0)
  else if way = 0 ∧ l.length = 0 then (0, E, place)
  else (0, (l :: E).take 60, 0)
section
variable {w0 w : World} {F : HP} {p place : Nat} {E : List (List Int)} {v : Value} {l : List Int} {way : Int}
end
end Go.Proofs.YtddekefihgejoaaGreatDoor
end
section
namespace Go.Proofs.YtddekefihgejoaaGreatDoor
open Go.RowKit
open _root_.Go.Proofs.Tryz
def zN (m place : Nat) (n : Int) : Nat := (((place : Int) + n) % (m : Int)).toNat
theorem TB {m place : Nat} {n : Int} (h : 0 < m) : zN m place n < m := by
  unfold zN
  have h1 := Int.emod_nonneg ((place : Int) + n) (show (m : Int) ≠ 0 by omega)
  have h2 := Int.emod_lt_of_pos ((place : Int) + n) (show (0 : Int) < m by omega)
  omega
theorem Gg (a : Int) {m : Int} (h : 0 < m) : -m < a.tmod m ∧ a.tmod m < m := by
  have h2 := Int.tmod_lt_of_pos a h
  have h3 := Int.tmod_lt_of_pos (-a) h
  rw [Int.neg_tmod] at h3
  omega
theorem EX (a m : Int) : a.tmod m % m = a % m := by
  rw [Int.tmod_def]
  exact Int.sub_mul_emod_self_left a m (a.tdiv m)
theorem Vq (m place : Nat) (n : Int) (h : 0 < m) : (((place : Int) + n.tmod m).tmod m + m).tmod m = (zN m place n : Int) := by
  have h1 := Gg ((place : Int) + n.tmod m) (show (0 : Int) < m by omega)
  have h2 := Int.emod_nonneg ((place : Int) + n) (show (m : Int) ≠ 0 by omega)
  unfold zN
  rw [Int.toNat_of_nonneg h2, Int.tmod_eq_emod_of_nonneg (by omega), Int.add_emod_right, EX, Int.add_emod, EX, ← Int.add_emod]
section
variable {w0 w : World} {F : HP} {p place : Nat} {E : List (List Int)} {v : Value} {l : List Int} {way : Int}
theorem zO {n : Int} (H : aB w0 w (dU p [] place • F)) :
  fE prog 115 #[.pointer (some ⟨p, 0, none⟩), .int .i64 n] w fun v' w' => v' = .tuple #[.slice none 0 0, .int .i64 6] ∧ aB w0 w' (dU p [] place • F) := by
 obtain ⟨s, h, hs, hh, hE, hp, hm, ho, H1⟩ := H.ring
 have hb := H1.get.2
 refine gy func115 ntmps115 ?_
 dsimp only [aY, Nat.reduceAdd]
 refine ay (ah (aV rfl (aV rfl (aA (aj (ay (bf (ay (ah (aN rfl (dw rfl func158 (oL _ hb F8) ?_)))))))))))
 rintro _ _ ⟨rfl, rfl⟩
 refine aV rfl (aA (aj (pJ (ay (ah (aN rfl (bP rfl (bg 62 underlying193 rfl sizeOf3 rfl (dO underlying3 rfl hb (ou hs) (aU (iY rfl rfl) (aV rfl (aA (aj (aP rfl (fun h1 => ?_) (fun h => by exfalso; (try simp only [aI] at h); first | contradiction | omega | (simp at h <;> omega))))))))))))))))
 (try simp only [aI] at h1)
 refine ay (ah (aV rfl (aV rfl (aA (aj (aJ (aX (aK (fV (.inl rfl) results115 rfl rfl ?_)))))))))
 exact ⟨rfl, H⟩
theorem BA {n : Int} (H : aB w0 w (dU p E place • F)) (h0 : 0 < E.length) :
  fE prog 115 #[.pointer (some ⟨p, 0, none⟩), .int .i64 n] w fun v' w' => ∃ u, v' = .tuple #[u, .int .i64 0] ∧
   aB w0 w' (gZ 21 .i32 u (E.getD (zN E.length place n) []) • dU p E (zN E.length place n) • F) := by
 obtain ⟨s, h, hs, hh, hE, hp, hm, ho, H⟩ := H.ring
 have hb := H.get.2
 have hlt := TB (place := place) (n := n) h0
 have Zn := Vq E.length place n h0
 have hb1 := Gg n (show (0 : Int) < E.length by omega)
 have hb2 := Gg ((place : Int) + n.tmod E.length) (show (0 : Int) < E.length by omega)
 refine gy func115 ntmps115 ?_
 dsimp only [aY, Nat.reduceAdd]
 refine ay (ah (aV rfl (aV rfl (aA (aj (ay (bf (ay (ah (aN rfl (dw rfl func158 (oL _ hb F8) ?_)))))))))))
 rintro _ _ ⟨rfl, rfl⟩
 refine aV rfl (aA (aj (pJ (ay (ah (aN rfl (bP rfl (bg 62 underlying193 rfl sizeOf3 rfl (dO underlying3 rfl hb (ou hs) (aU (iY rfl rfl) (aV rfl (aA (aj (aP rfl (fun h => by exfalso; (try simp only [aI] at h); first | contradiction | omega | (simp at h <;> omega)) (fun h1 => ?_)))))))))))))))
 (try simp only [aI] at h1)
 refine aT (aH (aj (ay ?_)))
 refine nD (n := 30) [0, 1, 2, 3, 4, 5, 6, 7, 8, 9, 10, 11, 12, 13, 14, 15, 16, 17, 18, 19, 20, 21, 22, 23, 24, 25, 26, 27, 28, 29] (fun W => W.heap = w.heap) (by kernel_rfl) (by kernel_rfl) rfl ?_
 have hS0 : (fun W => W.heap = w.heap) (w.drew) := rfl
 have YM := H.drew
 refine gQ 0 rfl hS0 rfl (gQ 1 rfl hS0 rfl (iQ 2 rfl hS0 rfl (dR 3 rfl hS0 63 underlying193 rfl sizeOf3 rfl ?_)))
 refine gY 4 rfl hS0 (fun W hW => iH underlying3 rfl (by rw [hW]; exact hb) (Dl hs)) ?_
 refine gQ 5 rfl hS0 rfl (gQ 6 rfl hS0 rfl (iQ 7 rfl hS0 rfl (dR 8 rfl hS0 62 underlying193 rfl sizeOf3 rfl ?_)))
 refine gY 9 rfl hS0 (fun W hW => iH underlying3 rfl (by rw [hW]; exact hb) (ou hs)) ?_
 refine iJ 10 rfl hS0 (fun _ => J6 rfl rfl (by omega)) (iJ 11 rfl hS0 (fun _ => dS rfl rfl (by omega)) (gQ 12 rfl hS0 rfl (iQ 13 rfl hS0 rfl (dR 14 rfl hS0 62 underlying193 rfl sizeOf3 rfl ?_))))
 refine gY 15 rfl hS0 (fun W hW => iH underlying3 rfl (by rw [hW]; exact hb) (ou hs)) ?_
 refine iJ 16 rfl hS0 (fun _ => J6 rfl rfl (by omega)) (gQ 17 rfl hS0 rfl (iQ 18 rfl hS0 rfl (dR 19 rfl hS0 62 underlying193 rfl sizeOf3 rfl ?_)))
 refine gY 20 rfl hS0 (fun W hW => iH underlying3 rfl (by rw [hW]; exact hb) (ou hs)) ?_
 refine iJ 21 rfl hS0 (fun _ => dS rfl rfl (by omega)) (gQ 22 rfl hS0 rfl (iQ 23 rfl hS0 rfl (dR 24 rfl hS0 62 underlying193 rfl sizeOf3 rfl ?_)))
 refine gY 25 rfl hS0 (fun W hW => iH underlying3 rfl (by rw [hW]; exact hb) (ou hs)) ?_
 refine iJ 26 rfl hS0 (fun _ => J6 rfl rfl (by omega)) (iQ 27 rfl hS0 rfl (dR 28 rfl hS0 63 underlying193 rfl sizeOf3 rfl ?_))
 refine dJ 29 rfl (by kernel_rfl) (fC YM sizeOf3 rfl rfl rfl (by rw [zM hs]; decide)) ?_
 rintro _ w2 H2
 rw [Zn, Dn hs] at H2
 refine L6 (by kernel_rfl) ?_
 refine nT (aj (ay (ah (aN rfl (aN rfl (bP rfl (bg 63 underlying193 rfl sizeOf3 rfl (dO underlying3 rfl H2.get.2 (Dl hs) (dw rfl func159 (IE hs hh (by omega) H2.get.2) ?_)))))))))
 rintro _ w3 ⟨rfl, hD2⟩
 have H3 := H2.Aj hD2
 refine J5 (qL (qO rfl func59 rfl rfl) (kS H3 (fun W HW => HW.right.P7 (i := zN E.length place n) hlt) (by have := hm (E.getD (zN E.length place n) []) (by rw [List.getD_eq_getElem?_getD, List.getElem?_eq_getElem hlt]; simp); omega))) (lT rfl) ?_
 rintro u w4 H4
 refine aV rfl (aV rfl (aA (aj (aJ (fV (.inl rfl) results115 rfl rfl ?_)))))
 exact ⟨u, rfl, (aB.BP hs hh hE (.inl hlt) hm ho H4.d3).swap⟩
theorem aB.Ob {s : List Value} {h : Nat} (H : aB w0 w (uZ s h E • F)) : aB w0 w (uZ s h E • uZ s h E • F) := H.yG
theorem Oc {s : List Value} {h n p : Nat} (ho : ∀ v ∈ s, v.oneCell' = true) : ∀ v ∈ (dX s h n p).toList, v.oneCell' = true := by
  intro v hv
  simp [dX] at hv
  rcases hv with rfl | hv | rfl | rfl | rfl <;> first | rfl | exact ho v hv
theorem wE (H : aB w0 w (dU p E place • F)) :
  fE prog 113 #[.pointer (some ⟨p, 0, none⟩)] w fun v' w' => ∃ q, v' = .pointer (some ⟨q, 0, none⟩) ∧ aB w0 w' (dU q E place • dU p E place • F) := by
 obtain ⟨s, h, hs, hh, hE, hp, hm, ho, H⟩ := H.ring
 have hb := H.get.2
 refine gy func113 ntmps113 ?_
 dsimp only [aY, Nat.reduceAdd]
 refine ay (ah (aV rfl (aA (aj (ay (ay (ah (aN rfl (dw rfl func158 (oL _ hb F8) ?_)))))))))
 rintro _ _ ⟨rfl, rfl⟩
 refine aA (aj (pJ (aT (aj (ay (ah (aN rfl (bP rfl (aU (bQ underlying193 rfl sizeOf193 (zM hs) rfl hb) (gq (uU H zeroValue193) ?_))))))))))
 rintro _ w2 ⟨b2, rfl, H2⟩
 refine aG (dD H2 sizeOf193 (zM hs) rfl rfl rfl (Oc ho)) ?_
 rintro _ w3 H3
 refine aA (aj (ay (ah (aV rfl (aA (aj (aJ (aQ (.inl rfl) results113 rfl ?_))))))))
 exact ⟨_, rfl, aB.BP hs hh hE hp hm ho (aB.BP hs hh hE hp hm ho (H3.Hu.Ob.r4)).swap.Hu⟩
end
end Go.Proofs.YtddekefihgejoaaGreatDoor
end
section
namespace Go.Proofs.YtddekefihgejoaaGreatDoor
open Go.RowKit
open _root_.Go.Proofs.Tryz
section
variable {w0 w : World} {F : HP} {p place : Nat} {E : List (List Int)}
theorem Ky (H : aB w0 w (dU p E place • F)) : E.length ≤ 60 ∧ (place < E.length ∨ place = 0) ∧ ∀ e ∈ E, e.length ≤ 1024 := by
  obtain ⟨s, h, hs, hh, hE, hpl, hE2, hs1, H1⟩ := H.ring
  exact ⟨hE, hpl, hE2⟩
theorem BD {n : Int} (H : aB w0 w (dU p E place • F)) : fE prog 115 #[.pointer (some ⟨p, 0, none⟩), .int .i64 n] w fun v w' => ∃ u, v = .tuple #[u, .int .i64 (if E.length = 0 then 6 else 0)] ∧
    aB w0 w' (gZ 21 .i32 u (if E.length = 0 then [] else E.getD (zN E.length place n) []) • dU p E (if E.length = 0 then place else zN E.length place n) • F) := by
  by_cases h0 : E.length = 0
  · obtain rfl := List.eq_nil_of_length_eq_zero h0
    simp only [List.length_nil, if_true]
    exact (zO H).mono fun v w' h => ⟨_, h.1, h.2.ig none⟩
  · simp only [if_neg h0]
    exact (BA H (by omega)).mono fun v w' h => h
end
end Go.Proofs.YtddekefihgejoaaGreatDoor
end
section
namespace Go.Proofs.YtddekefihgejoaaGreatDoor
open Go.RowKit
def qZ (I : Hp) (k : IntKind) (vs : List Value) (ls : List (List Int)) : Prop := vs.length = ls.length ∧ ∀ j, j < ls.length → xk I k (vs.getD j undef) (ls.getD j [])
def rW (k : IntKind) (vs : List Value) (ls : List (List Int)) : HP := know (fun I => qZ I k vs ls) fun _ _ hl h => ⟨h.1, fun j hj => (h.2 j hj).mono hl⟩
def LL (e : TypeId) (k : IntKind) (v : Value) (ls : List (List Int)) : HP := qJ fun vs => Row e 1 v ls.length vs • rW k vs ls
theorem jX {α : Type _} {l m : List α} {j : Nat} {d : α} (h : j < l.length) : (l ++ m).getD j d = l.getD j d := by simp [List.getD_eq_getElem?_getD, List.getElem?_append_left h]
theorem jG {α : Type _} {l m : List α} {j : Nat} {d : α} (h : l.length ≤ j) : (l ++ m).getD j d = m.getD (j - l.length) d := by simp [List.getD_eq_getElem?_getD, List.getElem?_append_right h]
theorem EY {α : Type _} {l : List α} {i j : Nat} {d : α} : (l.drop i).getD j d = l.getD (i + j) d := by simp [List.getD_eq_getElem?_getD]
theorem zQ {α : Type _} {l : List α} {i j : Nat} {d : α} (h : j < i) : (l.take i).getD j d = l.getD j d := by simp [List.getD_eq_getElem?_getD, List.getElem?_take, h]
theorem ug {α : Type _} {l : List α} {j : Nat} {d : α} (h : j < l.length) : l.getD j d ∈ l := by rw [List.getD_eq_getElem?_getD, List.getElem?_eq_getElem h]; exact List.getElem_mem h
theorem qZ.app {I : Hp} {k : IntKind} {vs us : List Value} {ls ms : List (List Int)} (h : qZ I k vs ls) (g : qZ I k us ms) : qZ I k (vs ++ us) (ls ++ ms) := by
  refine ⟨by simp [h.1, g.1], fun j hj => ?_⟩
  by_cases hl : j < ls.length
  · rw [jX (by rw [h.1]; exact hl), jX hl]; exact h.2 j hl
  · have hj' : j - ls.length < ms.length := by simp at hj; omega
    rw [jG (by rw [h.1]; omega), jG (by omega), h.1]; exact g.2 _ hj'
theorem qZ.drop {I : Hp} {k : IntKind} {vs : List Value} {ls : List (List Int)} (h : qZ I k vs ls) (i : Nat) : qZ I k (vs.drop i) (ls.drop i) := by
  refine ⟨by simp [h.1], fun j hj => ?_⟩
  rw [EY, EY]
  exact h.2 _ (by simp at hj; omega)
theorem qZ.take {I : Hp} {k : IntKind} {vs : List Value} {ls : List (List Int)} (h : qZ I k vs ls) (i : Nat) : qZ I k (vs.take i) (ls.take i) := by
  refine ⟨by simp [h.1], fun j hj => ?_⟩
  simp at hj
  rw [zQ (by omega), zQ (by omega)]
  exact h.2 _ (by omega)
theorem xk.one {I : Hp} {k : IntKind} {v : Value} {l : List Int} (h : xk I k v l) : qZ I k [v] [l] := ⟨rfl, fun j hj => by
  obtain rfl : j = 0 := by simp at hj; omega
  exact h⟩
theorem xk.P8 {I : Hp} {k : IntKind} {v : Value} {l : List Int} (h : xk I k v l) : v.oneCell' = true := by obtain ⟨a, c, rfl, _⟩ := h; rfl
section
variable {w0 w : World} {F : HP} {e : TypeId} {k : IntKind} {v : Value} {vs us : List Value} {ls ms : List (List Int)} {l : List Int}
theorem aB.TD (H : aB w0 w (rW k vs ls • F)) {j : Nat} (hj : j < ls.length) : iV w k (vs.getD j undef) (ls.getD j []) := let ⟨I, h, hI⟩ := H.rM; (h.2 j hj).rd hI
theorem aB.P9 (H : aB w0 w F) : aB w0 w (rW k [] [] • F) := H.wR fun I => ⟨rfl, fun j hj => by simp at hj⟩
theorem aB.EZ (H : aB w0 w (rW k vs ls • pz k v l • F)) : aB w0 w (rW k (vs ++ [v]) (ls ++ [l]) • F) := H.Ep (qU (fun I h g => h.app g.one) F)
theorem Rd.Xv {n : Nat} {xs : List Value} (hr : Rd w 1 v n xs) {i : Nat} (h : i ≤ n) : Rd w 1 (nG 1 0 i v) i (xs.take i) := by
  have h1 := hr.cut (Nat.zero_le i) h
  simpa using h1
end
end Go.Proofs.YtddekefihgejoaaGreatDoor
end
section
namespace Go.Proofs.YtddekefihgejoaaGreatDoor
open Go.RowKit
theorem Qa {α : Type _} {enc : α → List Value} {sz : Nat} (he : ∀ a, (enc a).length = sz) (l : List α) : (l.flatMap enc).length = l.length * sz := by
  induction l with
  | nil => simp
  | cons a l ih => simp [he, ih, Nat.add_mul, Nat.add_comm]
theorem jY {α : Type _} {enc : α → List Value} {sz : Nat} (he : ∀ a, (enc a).length = sz) {l : List α} {k : Nat} (hk : k < l.length) (d : α) : ((l.flatMap enc).drop (k * sz)).take sz = enc (l.getD k d) := by
  have h1 : l = l.take k ++ l.getD k d :: l.drop (k + 1) := by
    rw [List.getD_eq_getElem?_getD, List.getElem?_eq_getElem hk]
    simp
  have h2 : ((l.take k).flatMap enc).length = k * sz := by rw [Qa he, List.length_take, Nat.min_eq_left (by omega)]
  conv => lhs; rw [h1]
  rw [List.flatMap_append, List.drop_append, h2]
  simp [h2, List.take_append, he]
theorem iR {P : Program} {L : List (Nat × Value)} {w : World} {ty : TypeId} {x : Operand} {t : TypeId} {d : TypeDesc} {b o n c sz n' k : Nat} {xs ys : List Value} (hr : Rd w sz (.slice (some ⟨b, o, none⟩) n c) n' xs) (hk : k < n') (hu : P.underlying t = some d) (hd : FY d = true) (hs : ∀ w, (sizeOf t).run P w = .ok sz w)
    (hx : ev L x = some (.pointer (some ⟨b, o + (k : Int).toNat * sz, none⟩))) (hy : (xs.drop (k * sz)).take sz = ys) (hl : ys.length = sz) : Val P L (.load t x) ty w (.agg ys.toArray) w :=
  uT (by rw [hu]; rfl) (ER hu hd) hs hl hx (fun j u hj => by
    have hjl : j < sz := by rw [← hl]; exact (List.getElem?_eq_some_iff.1 hj).1
    rw [hr.atS hk hjl, List.getD_eq_getElem?_getD]
    rw [← hy, List.getElem?_take, if_pos hjl, List.getElem?_drop] at hj
    rw [hj]; rfl)
end Go.Proofs.YtddekefihgejoaaGreatDoor
end
section
namespace Go.Proofs.YtddekefihgejoaaGreatDoor
open Go.RowKit
open _root_.Go.Proofs.Tryz
section
variable {w0 w : World} {F : HP} {v d s z d2 z2 u1 u2 u3 : Value} {L dl il Ws Xw l1 l2 l3 : List Int} {a a2 : Int}
theorem IG (H : aB w0 w F) (hv : Ie w0 F 1 v 2 [u1, u2]) (h1 : iT w0 F .i32 u1 l1) (h2 : iT w0 F .i32 u2 l2) (hb : l1.length + l2.length ≤ 35184372088832) :
    fE prog 62 #[v] w fun v' w' => aB w0 w' (gZ 21 .i32 v' (l1 ++ l2) • F) := by
  have := Dh (ls := [l1, l2]) (vs := [u1, u2]) H hv (fun k hk => ?_) (by simp; omega)
  · simpa using this
  · simp at hk
    match k, hk with
    | 0, _ => exact h1
    | 1, _ => exact h2
def Zo (L : List Int) (a : Int) (dl : List Int) : Bool := decide (0 ≤ a ∧ a + dl.length ≤ L.length) && ((L.drop a.toNat).take dl.length == dl)
def uE (L : List Int) (a : Int) (dl il : List Int) : Int := if Zo L a dl then (if 1024 < (L.length : Int) - dl.length + il.length then 3 else 0) else 1
def uL (L : List Int) (a : Int) (dl il : List Int) : List Int := if uE L a dl il = 0 then L.take a.toNat ++ il ++ L.drop (a.toNat + dl.length) else []
abbrev Xx (a : Int) (d z : Value) : Value := .agg #[.int .i64 a, d, z]
theorem pY (H : aB w0 w F) (hd : iT w0 F .i32 d dl) (hi : iT w0 F .i32 z il) (b2 : dl.length ≤ 35184372087808) (b3 : il.length ≤ 35184372087808) :
  fE prog 168 #[Xx a d z] w fun v' w' => ∃ d' s', v' = Xx a d' s' ∧ aB w0 w' (gZ 21 .i32 d' dl • gZ 21 .i32 s' il • F) := by
 refine gy func168 ntmps168 ?_
 dsimp only [aY, Nat.reduceAdd]
 refine ay (ah (gq (iw (l := [_, _, _]) H rfl rfl) ?_))
 rintro _ w1 ⟨b1, rfl, H1⟩
 refine gq (bU (l := [_, _, _]) H1 zeroValue202 rfl) ?_
 rintro _ w2 ⟨b2, rfl, H2⟩
 refine aA (aj (ay ?_))
 have Qb := H2.drew
 have uh := aB.kp (Qb.f2.f2)
 refine vV [1, 3, 6] uh rfl (dR 0 rfl uh 0 underlying202 rfl sizeOf3 rfl (gY 1 rfl uh (fun W hW => iH underlying3 rfl ((Kp.h hW).f2).get.2 rfl) (dR 2 rfl uh 1 underlying202 rfl sizeOf23 rfl (gY 3 rfl uh (fun W hW => iH underlying23 rfl ((Kp.h hW).f2).get.2 rfl) (dR 5 rfl uh 2 underlying202 rfl sizeOf23 rfl (gY 6 rfl uh (fun W hW => iH underlying23 rfl ((Kp.h hW).f2).get.2 rfl) (jk 4 rfl (rP rfl func59 (kS Qb (fun W HW => hd _ (HW.right.right)) (by omega))) ?_)))))))
 rintro u3 w3 H3
 have BF := aB.kp (H3.f3.f3.f3)
 refine bT BF (fun W hW => (Kp.h hW).right.f2.f2) ?_
 refine jk 7 rfl (rP rfl func59 (kS H3 (fun W HW => hi _ (HW.right.right.right)) (by omega))) ?_
 rintro u4 w4 H4
 have uj := aB.kp (H4.f4.f4.f4.f4)
 refine bT uj (fun W hW => (Kp.h hW).right.f3.f3.f3) ?_
 obtain ⟨au3, cu3, Xy, -⟩ := iV.open ((H4.f2).aO)
 subst Xy
 obtain ⟨au4, cu4, eu4, -⟩ := iV.open ((H4).aO)
 subst eu4
 refine iJ 8 rfl uj (fun _ => fD (pl := #[(0, 1), (1, 1), (2, 1)]) (#[_, _, _]) underlying202 zeroValue202 (fun w => by kernel_rfl) rfl (rfl)) ?_
 refine dJ 9 rfl (by kernel_rfl) (bn 0 (l' := [_, _, _]) (us := [_, _, _]) H4.f3 sizeOf202 rfl rfl rfl (aC (by first | rfl | assumption) (aC (by first | rfl | exact Rd.one ((H4.f2).aO)) (aC (by first | rfl | exact Rd.one ((H4).aO)) aZ))) rfl rfl) ?_
 rintro _ w7 H7
 have xq := aB.kp (H7.f4.f4.f4.f4)
 refine dN xq (by kernel_rfl) ?_
 refine nT (aj (aJ ?_))
 refine jM (.inl rfl) (CX results168 rfl underlying202 rfl (by rw [show (prog.info? 202).map (·.size) = some 3 from by kernel_rfl]; rfl) (H7).get.2) ?_
 exact ⟨_, _, rfl, H7.right.f3.right.f2⟩
theorem zS (H : aB w0 w F) (hd : iT w0 F .i32 d dl) (hi : iT w0 F .i32 z il) (b2 : dl.length ≤ 35184372087808) (b3 : il.length ≤ 35184372087808) :
  fE prog 178 #[Xx a d z] w fun v' w' => ∃ d' s', v' = Xx a d' s' ∧ aB w0 w' (gZ 21 .i32 d' il • gZ 21 .i32 s' dl • F) := by
 refine gy func178 ntmps178 ?_
 dsimp only [aY, Nat.reduceAdd]
 refine ay (ah (gq (iw (l := [_, _, _]) H rfl rfl) ?_))
 rintro _ w1 ⟨b1, rfl, H1⟩
 refine gq (bU (l := [_, _, _]) H1 zeroValue202 rfl) ?_
 rintro _ w2 ⟨b2, rfl, H2⟩
 refine aA (aj (ay (ah (bg 0 underlying202 rfl sizeOf3 rfl (dO underlying3 rfl (H2.f2).get.2 rfl (bg 2 underlying202 rfl sizeOf23 rfl (dO underlying23 rfl (H2.f2).get.2 rfl (bg 1 underlying202 rfl sizeOf23 rfl (dO underlying23 rfl (H2.f2).get.2 rfl ?_)))))))))
 obtain ⟨az, cz, ez, -⟩ := iV.open (hi _ (H2.right.right))
 subst ez
 obtain ⟨ad, cd, ed, -⟩ := iV.open (hd _ (H2.right.right))
 subst ed
 refine aU (fD (pl := #[(0, 1), (1, 1), (2, 1)]) (#[_, _, _]) underlying202 zeroValue202 (fun w => by kernel_rfl) rfl (rfl)) (dw rfl func168 (pY H2 (fun W HW => hi _ (HW.right.right)) (fun W HW => hd _ (HW.right.right)) (by omega) (by omega)) ?_)
 rintro _ w5 ⟨d5, s5, rfl, H5⟩
 refine aG (bn 0 (l' := [_, _, _]) (us := [_, _, _]) H5.f3 sizeOf202 rfl rfl rfl (aC (by first | rfl | assumption) (aC (by first | rfl | exact Rd.one ((H5).aO)) (aC (by first | rfl | exact Rd.one ((H5.f2).aO)) aZ))) rfl rfl) ?_
 rintro _ w6 H6
 refine aA (aj (aJ ?_))
 refine jM (.inl rfl) (CX results178 rfl underlying202 rfl (by rw [show (prog.info? 202).map (·.size) = some 3 from by kernel_rfl]; rfl) (H6).get.2) ?_
 exact ⟨_, _, rfl, H6.right.f3.right.f2.f2⟩
end
end Go.Proofs.YtddekefihgejoaaGreatDoor
end
section
namespace Go.Proofs.YtddekefihgejoaaGreatDoor
open Go.RowKit
section
variable {w0 w : World} {F : HP} {v d s z d2 z2 u1 u2 u3 : Value} {L dl il Ws Xw l1 l2 l3 : List Int} {a a2 : Int}
def jK (a a2 : Int) (dl il Ws Xw : List Int) : Nat := if Ws.length = 0 ∧ a2 = a + il.length then 1 else if il.length = 0 ∧ Xw.length = 0 ∧ a = a2 + Ws.length then 2 else 0
def jA (k : Nat) (a a2 : Int) : Int := if k = 1 then a else if k = 2 then a2 else 0
def jD (k : Nat) (dl Ws : List Int) : List Int := if k = 1 then dl else if k = 2 then Ws ++ dl else []
def jI (k : Nat) (il Xw : List Int) : List Int := if k = 1 then il ++ Xw else []
end
end Go.Proofs.YtddekefihgejoaaGreatDoor
end
section
namespace Go.Proofs.YtddekefihgejoaaGreatDoor
open Go.RowKit
section
variable {P : Program} {L : List (Nat × Value)} {w0 w : World} {F : HP} {ty : TypeId}
theorem Kz (l : List Value) : ∀ (i : Nat) (cells : Array Value), cells.size = i + l.length → (l.zipIdx i).foldl (fun cs (x : Value × Nat) => cs.setIfInBounds (0 + x.2) x.1) cells = (cells.toList.take i ++ l).toArray := by
  induction l with
  | nil => intro i cells hs; simp [List.take_of_length_le (show cells.toList.length ≤ i by simp; simp at hs; omega)]
  | cons v r ih =>
    intro i cells hs
    rw [List.zipIdx_cons, List.foldl_cons]
    rw [ih (i + 1) _ (by simp at hs ⊢; omega)]
    congr 1
    have hi : i < cells.toList.length := by simp at hs ⊢; omega
    rw [Array.toList_setIfInBounds, Nat.zero_add, List.take_succ_eq_append_getElem (by simpa using hi), List.take_set_of_le (Nat.le_refl _)]
    simp
theorem lV {t e sz : Nat} {x : Operand} {cs : Array Value} {z : Value} (H : aB w0 w F) (ht : P.underlying t = some (.slice e)) (hs : ∀ w, (sizeOf e).run P w = .ok sz w) (hz : ∀ w, (zeroValue e).run P w = .ok z w) (hz1 : z.cells.size = sz)
    (hx : ev L x = some (.agg cs)) (hn : cs.size = sz) (h0 : 0 < sz) (NM : sz ≤ 16777216) :
    rH P L (.buildSlice t 1 #[(0, x)]) ty w fun v w' => aB w0 w' (Row e sz v 1 cs.toList • F) := by
  refine ni (v := .slice (some ⟨w.heap.size, 0, none⟩) 1 1) (w' := w.alloc (.cells cs e)) ?_ ?_
  · intro ρ hρ d pos lC g
    simp only [execOp, Instr.buildSlice, Sem.run_bind, run_underlying ht, Result.andThen_ok, hs]
    rw [if_neg (by omega), if_neg (by omega)]
    have hf : ∀ q : Array Value, q.size = sz → Instr.fill (fun i => some (i * sz, sz)) q [(0, .agg cs)] = some cs := fun q hq => by
      simp only [Instr.fill, Value.cells, hn]
      rw [if_neg (by simp [hq])]
      have := Kz cs.toList 0 q (by simp [hn, hq])
      simp only [Nat.zero_mul]
      rw [← Array.foldl_toList, Array.toList_zipIdx]
      simpa using this
    have hf1 := hf ((Array.range sz).map (z.cells[· % z.cells.size]!)) (by simp)
    simp [hz, hρ _ _ hx, hf1, newRow]
  · refine (H.alloc _).sQ (by simp [hn]) rfl (Nat.le_refl _) (by omega) (by simp [hn]) fun j hj => ?_
    rw [Nat.zero_add, List.getD_eq_getElem?_getD]
    have : j < cs.size := by omega
    simp [this]
theorem Dp (l : List Value) : ∀ (o i : Nat) (cells : Array Value), o + i + l.length ≤ cells.size → (l.zipIdx i).foldl (fun cs (x : Value × Nat) => cs.setIfInBounds (o + x.2) x.1) cells = (cells.toList.take (o + i) ++ l ++ cells.toList.drop (o + i + l.length)).toArray := by
  induction l with
  | nil => intro o i cells hs; simp
  | cons v r ih =>
    intro o i cells hs
    rw [List.zipIdx_cons, List.foldl_cons]
    rw [ih o (i + 1) _ (by simp at hs ⊢; omega)]
    congr 1
    simp only [List.length_cons] at hs ⊢
    have hi : o + i < cells.toList.length := by rw [Array.length_toList]; omega
    rw [Array.toList_setIfInBounds, show o + (i + 1) = o + i + 1 from by omega, List.take_succ_eq_append_getElem (by simpa using hi), List.take_set_of_le (Nat.le_refl _), List.drop_set_of_lt (by omega)]
    simp
    omega
theorem Oe {t e sz : Nat} {x y : Operand} {cs ds : Array Value} {z : Value} (H : aB w0 w F) (ht : P.underlying t = some (.slice e)) (hs : ∀ w, (sizeOf e).run P w = .ok sz w) (hz : ∀ w, (zeroValue e).run P w = .ok z w) (hz1 : z.cells.size = sz)
    (hx : ev L x = some (.agg cs)) (hy : ev L y = some (.agg ds)) (hn : cs.size = sz) (hm : ds.size = sz) (h0 : 0 < sz) (NM : sz ≤ 8388608) :
    rH P L (.buildSlice t 2 #[(0, x), (1, y)]) ty w fun v w' => aB w0 w' (Row e sz v 2 (cs.toList ++ ds.toList) • F) := by
  refine ni (v := .slice (some ⟨w.heap.size, 0, none⟩) 2 2) (w' := w.alloc (.cells (cs ++ ds) e)) ?_ ?_
  · intro ρ hρ d pos lC g
    simp only [execOp, Instr.buildSlice, Sem.run_bind, run_underlying ht, Result.andThen_ok, hs]
    rw [if_neg (by omega), if_neg (by omega)]
    have hf : ∀ q : Array Value, q.size = 2 * sz → Instr.fill (fun i => some (i * sz, sz)) q [(0, .agg cs), (1, .agg ds)] = some (cs ++ ds) := fun q hq => by
      have f1 := Dp cs.toList 0 0 q (by simp [hn, hq]; omega)
      have f2 := Dp ds.toList sz 0 ((q.toList.take 0 ++ cs.toList ++ q.toList.drop (0 + cs.toList.length)).toArray) (by simp [hn, hm, hq]; omega)
      simp only [Instr.fill, Value.cells, hn, hm]
      simp only [Nat.zero_mul, Nat.one_mul]
      rw [if_neg (by simp [hq]; omega), ← Array.foldl_toList, Array.toList_zipIdx]
      simp only [Nat.zero_add] at f1 f2 ⊢
      rw [f1]
      rw [if_neg (by simp [hn, hq]; omega), ← Array.foldl_toList, Array.toList_zipIdx]
      rw [f2]
      congr 1
      apply Array.ext'
      simp [hn, hm, hq]
      omega
    have hf1 := hf ((Array.range (2 * sz)).map (z.cells[· % z.cells.size]!)) (by simp)
    simp [hz, hρ _ _ hx, hρ _ _ hy, hf1, newRow]
  · refine (H.alloc _).sQ (by simp [hn, hm]; omega) rfl (Nat.le_refl _) (by omega) (by simp [hn, hm]; omega) fun j hj => ?_
    rw [Nat.zero_add, List.getD_eq_getElem?_getD]
    have h1 : j < (cs ++ ds).size := by simp [hn, hm]; omega
    rw [← Array.getElem?_toList, Array.toList_append, List.getElem?_eq_getElem (by simpa using h1)]
    rfl
theorem yS {t e sz n n' : Nat} {x y : Operand} {b o c : Nat} {i : Int} (off : Nat) {xs : List Value} {u : Value} (H : aB w0 w (Row e sz (.slice (some ⟨b, o, none⟩) n' c) n xs • F)) (hs : ∀ w, (sizeOf t).run P w = .ok 1 w)
    (hx : ev L x = some (.pointer (some ⟨b, o + i.toNat * sz + off, none⟩))) (hy : ev L y = some u) (h1 : u.oneCell' = true) (hi : i.toNat < n) (ho : off < sz) :
    rH P L (.store t x y) ty w fun _ w' => aB w0 w' (Row e sz (.slice (some ⟨b, o, none⟩) n' c) n (xs.set (i.toNat * sz + off) u) • F) := by
  have hlen := H.wP
  rcases H.qQ with ⟨a, hv, hn, hxs, H1⟩ | ⟨g, o', c', cur, hv, h2, h3, h4, h5, H1⟩
  · omega
  cases hv
  have hlt : i.toNat * sz + off < n * sz := Nat.lt_of_lt_of_le (by omega : i.toNat * sz + off < i.toNat * sz + sz) (by rw [← Nat.succ_mul]; exact Nat.mul_le_mul_right _ hi)
  have hle : n * sz ≤ c * sz := Nat.mul_le_mul_right _ h2
  refine (fC H1 hs hx hy h1 (by omega)).mono fun v w' H2 => ?_
  refine H2.sQ (o := o) (by simpa using hlen) rfl h2 h3 (by simp; omega) fun q hq => ?_
  rw [Array.getElem?_setIfInBounds]
  by_cases e1 : q = i.toNat * sz + off
  · subst e1
    rw [if_pos (by omega), if_pos (by omega)]
    simp [List.getD_eq_getElem?_getD, show i.toNat * sz + off < xs.length from by omega]
  · rw [if_neg (by omega), h5 q hq]
    simp only [List.getD_eq_getElem?_getD]
    rw [List.getElem?_set_ne (by omega)]
end
section
variable {w0 w : World} {F : HP}
end
end Go.Proofs.YtddekefihgejoaaGreatDoor
end
section
namespace Go.Proofs.YtddekefihgejoaaGreatDoor
open Go.RowKit
structure dn where
  a : Int
  d : Value
  dl : List Int
  i : Value
  il : List Int
instance : Inhabited dn := ⟨⟨0, .slice none 0 0, [], .slice none 0 0, []⟩⟩
def dn.enc (e : dn) : List Value := [.int .i64 e.a, e.d, e.i]
theorem dn.yT (e : dn) : e.enc.length = 3 := rfl
def dn.Wu (I : Hp) (e : dn) : Prop := xk I .i32 e.d e.dl ∧ xk I .i32 e.i e.il
theorem dn.Wu.mono {I I' : Hp} {e : dn} (hl : Hp.le I I') (h : e.Wu I) : e.Wu I' := ⟨h.1.mono hl, h.2.mono hl⟩
def dn.says (e : dn) : Int × List Int × List Int := (e.a, e.dl, e.il)
def BG (I : Hp) (es : List dn) : Prop := ∀ k, k < es.length → (es.getD k default).Wu I
theorem BG.mono {I I' : Hp} {es : List dn} (hl : Hp.le I I') (h : BG I es) : BG I' es := fun k hk => (h k hk).mono hl
theorem BG.app {I : Hp} {es fs : List dn} (h : BG I es) (g : BG I fs) : BG I (es ++ fs) := fun k hk => by
  by_cases hl : k < es.length
  · rw [jX hl]; exact h k hl
  · rw [jG (by omega)]; exact g _ (by simp at hk; omega)
theorem BG.one {I : Hp} {e : dn} (h : e.Wu I) : BG I [e] := fun k hk => by
  obtain rfl : k = 0 := by simp at hk; omega
  exact h
def jh (es : List dn) : HP := know (fun I => BG I es) fun _ _ hl h => h.mono hl
def edK (e : dn) : HP := know (fun I => e.Wu I) fun _ _ hl h => h.mono hl
def EC (v : Value) (es : List dn) : HP := Row 202 3 v es.length (es.flatMap dn.enc) • jh es
def II (I : Hp) (sz : Nat) (v : Value) (n : Nat) (xs : List Value) : Prop := xs.length = n * sz ∧ ∃ a c, v = .slice a n c ∧ n ≤ c ∧ (c : Int) ≤ 9223372036854775807 ∧
  (0 < n → ∃ b o cs e fr, a = some ⟨b, o, none⟩ ∧ I b = some (.cells cs e fr) ∧ ∀ j, j < n * sz → cs[o + j]? = some (xs.getD j undef))
theorem II.mono {I I' : Hp} {sz n : Nat} {v : Value} {xs : List Value} (hl : Hp.le I I') (h : II I sz v n xs) : II I' sz v n xs := by
  obtain ⟨h0, a, c, h1, h2, h3, h4⟩ := h
  exact ⟨h0, a, c, h1, h2, h3, fun hp => let ⟨b, o, cs, e, fr, e1, e2, e3⟩ := h4 hp; ⟨b, o, cs, e, fr, e1, hl _ _ e2, e3⟩⟩
theorem II.rd {w : World} {m : Nat} {I : Hp} {sz n : Nat} {v : Value} {xs : List Value} (h : II I sz v n xs) (hI : ∀ k o, I k = some o → m ≤ k ∧ w.heap[k]? = some o) : Rd w sz v n xs := by
  obtain ⟨h0, a, c, h1, h2, h3, h4⟩ := h
  exact ⟨h0, a, c, h1, h2, h3, fun hp => let ⟨b, o, cs, e, fr, e1, e2, e3⟩ := h4 hp; ⟨b, o, e1, fun j hj => gX (hI _ _ e2).2 (e3 j hj)⟩⟩
theorem II.P8 {I : Hp} {sz n : Nat} {v : Value} {xs : List Value} (h : II I sz v n xs) : v.oneCell' = true := by obtain ⟨_, a, c, rfl, _⟩ := h; rfl
def Wv (I : Hp) (v : Value) (es : List dn) : Prop := II I 3 v es.length (es.flatMap dn.enc) ∧ BG I es
theorem Wv.mono {I I' : Hp} {v : Value} {es : List dn} (hl : Hp.le I I') (h : Wv I v es) : Wv I' v es := ⟨h.1.mono hl, h.2.mono hl⟩
def zC (v : Value) (es : List dn) : HP := know (fun I => Wv I v es) fun _ _ hl h => h.mono hl
def yU (I : Hp) (gs : List (Value × List dn)) : Prop := ∀ k, k < gs.length → Wv I (gs.getD k default).1 (gs.getD k default).2
theorem yU.mono {I I' : Hp} {gs : List (Value × List dn)} (hl : Hp.le I I') (h : yU I gs) : yU I' gs := fun k hk => (h k hk).mono hl
theorem yU.app {I : Hp} {es fs : List (Value × List dn)} (h : yU I es) (g : yU I fs) : yU I (es ++ fs) := fun k hk => by
  by_cases hl : k < es.length
  · rw [jX hl]; exact h k hl
  · rw [jG (by omega)]; exact g _ (by simp at hk; omega)
theorem yU.one {I : Hp} {v : Value} {es : List dn} (h : Wv I v es) : yU I [(v, es)] := fun k hk => by
  obtain rfl : k = 0 := by simp at hk; omega
  exact h
theorem yU.take {I : Hp} {gs : List (Value × List dn)} (h : yU I gs) (n : Nat) : yU I (gs.take n) := fun k hk => by
  simp at hk
  rw [zQ (by omega)]
  exact h k (by omega)
def nM (gs : List (Value × List dn)) : HP := know (fun I => yU I gs) fun _ _ hl h => h.mono hl
def yV (v : Value) (gs : List (Value × List dn)) : HP := Row 67 1 v gs.length (gs.map (·.1)) • nM gs
section
variable {w0 w : World} {F : HP} {v u : Value} {es fs : List dn} {e : dn} {gs : List (Value × List dn)} {a : Int} {d i : Value} {dl il : List Int}
theorem aB.Dq (H : aB w0 w F) : aB w0 w (jh [] • F) := H.wR fun I k hk => by simp at hk
theorem aB.IJ (H : aB w0 w F) : aB w0 w (nM [] • F) := H.wR fun I k hk => by simp at hk
theorem aB.oM (H : aB w0 w F) (a : Option Addr) : aB w0 w (EC (.slice a 0 0) [] • F) := (H.Dq.ig (e := 202) (sz := 3) a).deep
theorem aB.yX (H : aB w0 w F) (a : Option Addr) : aB w0 w (yV (.slice a 0 0) [] • F) := (H.IJ.ig (e := 67) (sz := 1) a).deep
theorem aB.Wx (H : aB w0 w (EC v es • F)) : aB w0 w (Row 202 3 v es.length (es.flatMap dn.enc) • jh es • F) := H.flat
theorem aB.Vr (H : aB w0 w (yV v gs • F)) : aB w0 w (Row 67 1 v gs.length (gs.map (·.1)) • nM gs • F) := H.flat
theorem aB.um (H : aB w0 w (Row 202 3 v (es.length + 1) (es.flatMap dn.enc ++ [.int .i64 a, d, i]) • pz .i32 d dl • pz .i32 i il • jh es • F)) : aB w0 w (EC v (es ++ [⟨a, d, dl, i, il⟩]) • F) := by
  have h1 : aB w0 w (pz .i32 d dl • pz .i32 i il • jh es • Row 202 3 v (es.length + 1) (es.flatMap dn.enc ++ [.int .i64 a, d, i]) • F) := H.of_eq (by ac_rfl)
  have h2 : aB w0 w (edK ⟨a, d, dl, i, il⟩ • jh es • Row 202 3 v (es.length + 1) (es.flatMap dn.enc ++ [.int .i64 a, d, i]) • F) := h1.Ep (qU (fun I h g => ⟨h, g⟩) _)
  have h3 : aB w0 w (jh (es ++ [⟨a, d, dl, i, il⟩]) • Row 202 3 v (es.length + 1) (es.flatMap dn.enc ++ [.int .i64 a, d, i]) • F) := h2.Ep (qU (fun I h g => g.app (BG.one h)) _)
  refine aB.deep (h3.swap.of_eq ?_)
  rw [List.length_append, List.flatMap_append]
  simp [dn.enc]
theorem aB.ru (H : aB w0 w (EC v es • F)) : aB w0 w (zC v es • F) := by
  have hl := H.Wx.wP
  have H := H.Wx
  rcases H.qQ with ⟨a, rfl, h1, h2, H1⟩ | ⟨g, o, c, cur, rfl, h2, h3, h4, h5, H1⟩
  · refine H1.Ep (qR (fun I hI => ⟨⟨hl, a, 0, by rw [h1], by omega, by decide, fun h => by omega⟩, hI⟩) F)
  · exact H1.freeze.Ep (qU (fun I hI hE => ⟨⟨hl, _, c, rfl, h2, h3, fun _ => ⟨g, o, cur, _, (0, 0), rfl, hI, h5⟩⟩, hE⟩) F)
theorem aB.xU (H : aB w0 w (zC v es • F)) : Rd w 3 v es.length (es.flatMap dn.enc) := let ⟨I, h, hI⟩ := H.rM; h.1.rd hI
theorem aB.Xz (H : aB w0 w (zC v es • F)) {k : Nat} (hk : k < es.length) : iV w .i32 (es.getD k default).d (es.getD k default).dl := let ⟨I, h, hI⟩ := H.rM; (h.2 k hk).1.rd hI
theorem aB.XA (H : aB w0 w (zC v es • F)) {k : Nat} (hk : k < es.length) : iV w .i32 (es.getD k default).i (es.getD k default).il := let ⟨I, h, hI⟩ := H.rM; (h.2 k hk).2.rd hI
theorem aB.IK (H : aB w0 w (nM gs • F)) {k : Nat} (hk : k < gs.length) : aB w0 w (zC (gs.getD k default).1 (gs.getD k default).2 • nM gs • F) := H.yG.Ep (qR (fun I h => h k hk) _)
theorem aB.Qc (H : aB w0 w (nM gs • F)) (n : Nat) : aB w0 w (nM (gs.take n) • F) := H.Ep (qR (fun I h => h.take n) _)
theorem aB.uo (H : aB w0 w (Row 67 1 v (gs.length + 1) (gs.map (·.1) ++ [u]) • zC u es • nM gs • F)) : aB w0 w (yV v (gs ++ [(u, es)]) • F) := by
  have h1 : aB w0 w (zC u es • nM gs • Row 67 1 v (gs.length + 1) (gs.map (·.1) ++ [u]) • F) := H.of_eq (by ac_rfl)
  have h3 : aB w0 w (nM (gs ++ [(u, es)]) • Row 67 1 v (gs.length + 1) (gs.map (·.1) ++ [u]) • F) := h1.Ep (qU (fun I h g => g.app (yU.one h)) _)
  refine aB.deep (h3.swap.of_eq ?_)
  rw [List.length_append, List.map_append]
  rfl
theorem aB.IL (H : aB w0 w (jh es • F)) : ∀ x ∈ es.flatMap dn.enc, x.oneCell' = true := by
  obtain ⟨I, h, hI⟩ := H.rM
  intro x hx
  obtain ⟨e, he, hx⟩ := List.mem_flatMap.1 hx
  obtain ⟨k, hk, rfl⟩ := List.getElem_of_mem he
  have := h k hk
  rw [List.getD_eq_getElem?_getD, List.getElem?_eq_getElem hk] at this
  simp [dn.enc] at hx
  rcases hx with rfl | rfl | rfl
  · rfl
  · exact this.1.P8
  · exact this.2.P8
end
end Go.Proofs.YtddekefihgejoaaGreatDoor
end
section
namespace Go.Proofs.YtddekefihgejoaaGreatDoor
open Go.RowKit
open _root_.Go.Proofs.Tryz
abbrev fB := Int × List Int × List Int
def eH (G : List (List fB)) (N : List fB) : Nat := (G.map List.length).sum + N.length
def EB (e : fB) : Prop := e.2.1.length ≤ 35184372087808 ∧ e.2.2.length ≤ 35184372087808
theorem TF {N : List fB} {x : fB} (h : ∀ e ∈ N, EB e) (hx : EB x) : ∀ e ∈ N ++ [x], EB e := fun e he => by
  rcases List.mem_append.1 he with he | he
  · exact h e he
  · rw [List.mem_singleton.1 he]; exact hx
theorem IQ {G : List (List fB)} {N : List fB} (h : ∀ g ∈ G, ∀ e ∈ g, EB e) (hx : ∀ e ∈ N, EB e) : ∀ g ∈ G ++ [N], ∀ e ∈ g, EB e := fun g hg => by
  rcases List.mem_append.1 hg with hg | hg
  · exact h g hg
  · rw [List.mem_singleton.1 hg]; exact hx
theorem MC {G : List (List fB)} {N : List fB} (h : ∀ g ∈ G, g ≠ []) (hx : N ≠ []) : ∀ g ∈ G ++ [N], g ≠ [] := fun g hg => by
  rcases List.mem_append.1 hg with hg | hg
  · exact h g hg
  · rw [List.mem_singleton.1 hg]; exact hx
def TG (G : List (List fB)) (N : List fB) (op : Int) : Prop := (∀ g ∈ G, g ≠ []) ∧ eH G N ≤ 16384 ∧ 0 ≤ op ∧ op ≤ 4611686018427387904 ∧ (∀ g ∈ G, ∀ e ∈ g, EB e) ∧ ∀ e ∈ N, EB e
theorem KA {G : List (List fB)} (h : ∀ g ∈ G, g ≠ []) : G.length ≤ (G.map List.length).sum := by
  induction G with
  | nil => simp
  | cons g G ih =>
    have h1 := ih fun x hx => h x (by simp [hx])
    have h2 : 0 < g.length := List.length_pos_iff.2 (h g (by simp))
    simp; omega
theorem TG.len {G : List (List fB)} {N : List fB} {op : Int} (h : TG G N op) : G.length + N.length ≤ 16384 := by
  have := KA h.1
  have := h.2.1
  unfold eH at this
  omega
def dV (p : Nat) (G : List (List fB)) (N : List fB) (op : Int) : HP := qJ fun (x : Value × Value × List (Value × List dn) × List dn) =>
  fact (TG G N op ∧ x.2.2.1.map (fun g => g.2.map dn.says) = G ∧ x.2.2.2.map dn.says = N) • bY p (.cells #[x.1, x.2.1, .int .i64 op, .int .i64 (eH G N : Nat), .bool true] 233 (0, 0)) • yV x.1 x.2.2.1 • EC x.2.1 x.2.2.2
section
variable {w0 w : World} {F : HP} {p : Nat} {G : List (List fB)} {N : List fB} {op : Int} {gv nv : Value} {gs : List (Value × List dn)} {now : List dn} {a : Int} {d z : Value} {dl il : List Int}
theorem aB.pU (H : aB w0 w (dV p G N op • F)) : ∃ gv nv gs now, TG G N op ∧ gs.map (fun g => g.2.map dn.says) = G ∧ now.map dn.says = N ∧ gs.length = G.length ∧ now.length = N.length ∧ G.length + N.length ≤ 16384 ∧
    aB w0 w (bY p (.cells #[gv, nv, .int .i64 op, .int .i64 (eH G N : Nat), .bool true] 233 (0, 0)) • Row 67 1 gv gs.length (gs.map (·.1)) • nM gs • Row 202 3 nv now.length (now.flatMap dn.enc) • jh now • F) := by
  obtain ⟨⟨gv, nv, gs, now⟩, H⟩ := H.lg
  obtain ⟨⟨h1, h2, h3⟩, H⟩ := H.flat.fact
  refine ⟨gv, nv, gs, now, h1, h2, h3, ?_, ?_, h1.len, ?_⟩
  · rw [← h2]; simp
  · rw [← h3]; simp
  · have := H.flat
    unfold yV EC at this
    exact this.of_eq (by ac_rfl)
theorem aB.oZ (h1 : TG G N op) (h2 : gs.map (fun g => g.2.map dn.says) = G) (h3 : now.map dn.says = N) {ed : Int} (he : ed = (eH G N : Nat))
    (H : aB w0 w (bY p (.cells #[gv, nv, .int .i64 op, .int .i64 ed, .bool true] 233 (0, 0)) • yV gv gs • EC nv now • F)) : aB w0 w (dV p G N op • F) := by
  subst he
  exact aB.gJ (gv, nv, gs, now) (aB.deep (aB.jL ⟨h1, h2, h3⟩ (H.of_eq (by ac_rfl))))
theorem aB.jl (h1 : TG G N op) (h2 : gs.map (fun g => g.2.map dn.says) = G) (h3 : now.map dn.says = N) {ed : Int} (he : ed = (eH G N : Nat))
    (H : aB w0 w (bY p (.cells #[gv, nv, .int .i64 op, .int .i64 ed, .bool true] 233 (0, 0)) • Row 67 1 gv gs.length (gs.map (·.1)) • nM gs • Row 202 3 nv now.length (now.flatMap dn.enc) • jh now • F)) : aB w0 w (dV p G N op • F) :=
  aB.oZ h1 h2 h3 he (H.of_eq (by unfold yV EC; ac_rfl))
theorem iE (H : aB w0 w (dV p G N op • F)) : fE prog 161 #[.pointer (some ⟨p, 0, none⟩)] w fun v w' => v = .bool false ∧ w = w' := by
 refine gy func161 ntmps161 ?_
 dsimp only [aY, Nat.reduceAdd]
 refine ay (ah (aV rfl (aA (aj (ay ?_)))))
 obtain ⟨vU, sV, jv, jc, iI, oz, mg, zT, zU, ED, kH⟩ := (H).pU
 refine ah (aN rfl (aU (eF underlying187 rfl rfl) (jy rfl (fun h1 => ?_) (fun h1 => ?_))))
 ·(try simp only [aI] at h1)
  try (exfalso; first | contradiction | omega)
  all_goals
   refine bF (bF (bF (bF (bF (jw rfl rfl (aV rfl (aA (aj (aJ (aQ (.inl rfl) results161 rfl ?_))))))))))
   exact ⟨rfl, rfl⟩
 ·(try simp only [aI] at h1)
  try (exfalso; first | contradiction | omega)
  all_goals
   refine bC (aN rfl (bC (bP rfl (bC (bg 4 underlying233 rfl sizeOf4 rfl (bC (dO underlying4 rfl (kH).get.2 rfl (bC (aU (kJ rfl) (iU rfl rfl (aV rfl (aA (aj (aJ (aQ (.inl rfl) results161 rfl ?_)))))))))))))))
   exact ⟨rfl, rfl⟩
theorem Gh (H : aB w0 w F) : fE prog 163 #[] w fun v w' => ∃ p, v = .pointer (some ⟨p, 0, none⟩) ∧ aB w0 w' (dV p [] [] 0 • F) := by
 refine gy func163 ntmps163 ?_
 dsimp only [aY, Nat.reduceAdd]
 refine ay (ah (aV rfl (aA (aj (ay (ah (aU (fD (pl := #[(0, 4), (4, 1)]) (#[_, _, _, _, _]) underlying233 zeroValue233 (fun w => by kernel_rfl) rfl (rfl)) (gq (iw (l := [_, _, _, _, _]) H rfl rfl) ?_))))))))
 rintro _ w1 ⟨b1, rfl, H1⟩
 refine aV rfl (aA (aj (aJ (aQ (.inl rfl) results163 rfl ?_))))
 refine ⟨_, rfl, aB.oZ (gv := .slice none 0 0) (nv := .slice none 0 0) (gs := []) (now := []) ⟨by simp, by decide, by decide, by decide, by simp, by simp⟩ rfl rfl rfl ?_⟩
 exact (((H1).oM none).yX none).of_eq (by ac_rfl)
theorem Gi (H : aB w0 w (dV p G N op • F)) : fE prog 117 #[.pointer (some ⟨p, 0, none⟩)] w fun v w' => v = .int .i64 ((G.length : Int) + min 1 N.length) ∧ aB w0 w' (dV p G N op • F) := by
 refine gy func117 ntmps117 ?_
 dsimp only [aY, Nat.reduceAdd]
 refine ay (ah (aV rfl (aA (aj (ay (ay (ah (aN rfl (dw rfl func161 (iE H) ?_)))))))))
 rintro _ _ ⟨rfl, rfl⟩
 refine aA (aj (pJ (aT (aj (ay ?_)))))
 obtain ⟨vU, sV, jv, jc, iI, oz, mg, zT, zU, ED, kH⟩ := (H).pU
 have zV := kH.drew
 have eX := aB.kp (zV.f5.f5.f5.f5.f5)
 refine vV [4, 10] eX rfl (gQ 0 rfl eX rfl (iQ 1 rfl eX rfl (dR 2 rfl eX 0 underlying233 rfl sizeOf231 rfl (dR 3 rfl eX 0 underlying231 rfl sizeOf180 rfl (gY 4 rfl eX (fun W hW => iH underlying180 rfl ((Kp.h hW)).get.2 rfl) (iJ 5 rfl eX (fun _ => fM ((zV.f2).aO) underlying180 rfl) (gQ 6 rfl eX rfl (iQ 7 rfl eX rfl (dR 8 rfl eX 0 underlying233 rfl sizeOf231 rfl (dR 9 rfl eX 1 underlying231 rfl sizeOf67 rfl (gY 10 rfl eX (fun W hW => iH underlying67 rfl ((Kp.h hW)).get.2 rfl) (iJ 11 rfl eX (fun _ => fM ((zV.f4).aO) underlying67 rfl) (iJ 12 rfl eX (fun _ => Pj rfl rfl) (iJ 13 rfl eX (fun _ => dS rfl rfl (by omega)) (iJ 14 rfl eX (fun _ => eP rfl) (nT (aj (aJ (aQ (.inl rfl) results117 rfl ?_)))))))))))))))))))
 have KC := zV.f5.f5.f5.f5.f5
 have KD := aB.jl iI oz mg rfl KC
 exact ⟨by rw [zT, zU]; congr 1; omega, KD⟩
theorem Dt (H : aB w0 w (dV p G N op • F)) : fE prog 137 #[.pointer (some ⟨p, 0, none⟩)] w fun v w' => v = .int .i64 (eH G N : Nat) ∧ aB w0 w' (dV p G N op • F) := by
 refine gy func137 ntmps137 ?_
 dsimp only [aY, Nat.reduceAdd]
 refine ay (ah (aV rfl (aA (aj (ay (ay (ah (aN rfl (dw rfl func161 (iE H) ?_)))))))))
 rintro _ _ ⟨rfl, rfl⟩
 refine aA (aj (pJ (aT (aj (ay ?_)))))
 obtain ⟨vU, sV, jv, jc, iI, oz, mg, zT, zU, ED, kH⟩ := (H).pU
 refine ah (aN rfl (bP rfl (bg 0 underlying233 rfl sizeOf231 rfl (bg 3 underlying231 rfl sizeOf3 rfl (dO underlying3 rfl (kH).get.2 rfl (aV rfl (aA (aj (aJ (aQ (.inl rfl) results137 rfl ?_))))))))))
 have KC := kH.f5.f5.f5.f5.f5
 have KD := aB.jl iI oz mg rfl KC
 exact ⟨rfl, KD⟩
theorem rC (H : aB w0 w (dV p G N op • F)) (hb : op < 4611686018427387904) : fE prog 132 #[.pointer (some ⟨p, 0, none⟩)] w fun v w' => v = .int .i64 0 ∧ aB w0 w' (dV p G N (op + 1) • F) := by
 have hop : 0 ≤ op := by obtain ⟨gv, nv, gs, now, k1, _⟩ := H.pU; exact k1.2.2.1
 refine gy func132 ntmps132 ?_
 dsimp only [aY, Nat.reduceAdd]
 refine ay (ah (aV rfl (aA (aj (ay (ay (ah (aN rfl (dw rfl func161 (iE H) ?_)))))))))
 rintro _ _ ⟨rfl, rfl⟩
 refine aA (aj (pJ (aT (aj (ay ?_)))))
 obtain ⟨vU, sV, jv, jc, iI, oz, mg, zT, zU, ED, kH⟩ := (H).pU
 refine ah (aN rfl (bP rfl (bg 0 underlying233 rfl sizeOf231 rfl (bg 2 underlying231 rfl sizeOf3 rfl (dO underlying3 rfl (kH).get.2 rfl (aU (dS rfl rfl (by omega)) (bP rfl (bg 0 underlying233 rfl sizeOf231 rfl (bg 2 underlying231 rfl sizeOf3 rfl (aG (aS 2 (l' := [_, _, _, _, _]) kH sizeOf3 rfl rfl (by first | rfl | assumption) rfl rfl) ?_))))))))))
 rintro _ w3 H3
 refine aA (aj (ay (ah (aV rfl (aA (aj (aJ (aQ (.inl rfl) results132 rfl ?_))))))))
 exact ⟨rfl, aB.jl ⟨iI.1, iI.2.1, by omega, by omega, iI.2.2.2.2⟩ oz mg rfl H3.f5.f5.f5.f5.f5⟩
def nN (G : List (List fB)) (N : List fB) (a : Int) (dl il : List Int) : Int := if dl.length + il.length = 0 ∨ a < 0 then 1 else if 16384 ≤ eH G N then 3 else 0
def KE (G : List (List fB)) (N : List fB) (op a : Int) (dl il : List Int) : List (List fB) := if nN G N a dl il = 0 then (if 0 < op then G else G ++ [[(a, dl, il)]]) else G
def KF (G : List (List fB)) (N : List fB) (op a : Int) (dl il : List Int) : List fB := if nN G N a dl il = 0 then (if 0 < op then N ++ [(a, dl, il)] else N) else N
theorem Gj {x : fB} : eH G (N ++ [x]) = eH G N + 1 := by simp [eH]; omega
theorem IU {x : fB} : eH (G ++ [[x]]) N = eH G N + 1 := by simp [eH]; omega
theorem Du (h : nN G N a dl il ≠ 0) : KE G N op a dl il = G := by unfold KE; rw [if_neg h]
theorem Dv (h : nN G N a dl il ≠ 0) : KF G N op a dl il = N := by unfold KF; rw [if_neg h]
theorem BQ (h : nN G N a dl il = 0) (ho : 0 < op) : KE G N op a dl il = G := by unfold KE; rw [if_pos h, if_pos ho]
theorem BR (h : nN G N a dl il = 0) (ho : 0 < op) : KF G N op a dl il = N ++ [(a, dl, il)] := by unfold KF; rw [if_pos h, if_pos ho]
theorem Qd (h : nN G N a dl il = 0) (ho : ¬ 0 < op) : KE G N op a dl il = G ++ [[(a, dl, il)]] := by unfold KE; rw [if_pos h, if_neg ho]
theorem Qe (h : nN G N a dl il = 0) (ho : ¬ 0 < op) : KF G N op a dl il = N := by unfold KF; rw [if_pos h, if_neg ho]
theorem vk (H : aB w0 w (dV p G N op • F)) (hd : iT w0 F .i32 d dl) (hi : iT w0 F .i32 z il) (b2 : dl.length ≤ 35184372087808) (b3 : il.length ≤ 35184372087808) :
  fE prog 133 #[.pointer (some ⟨p, 0, none⟩), Xx a d z] w fun v w' => v = .int .i64 (nN G N a dl il) ∧ aB w0 w' (dV p (KE G N op a dl il) (KF G N op a dl il) op • F) := by
 refine gy func133 ntmps133 ?_
 dsimp only [aY, Nat.reduceAdd]
 refine ay (ah (gq (iw (l := [_, _, _]) H rfl rfl) ?_))
 rintro _ w1 ⟨b1, rfl, H1⟩
 refine aV rfl (aA (aj (ay (ay (ah (aN rfl (dw rfl func161 (iE H1.f2) ?_)))))))
 rintro _ _ ⟨rfl, rfl⟩
 refine aA (aj (pJ (aT (aj (ay (ay (ah (bg 1 underlying202 rfl sizeOf23 rfl (dO underlying23 rfl (H1).get.2 rfl (aU (gG (hd _ (H1.right.right)) underlying23 rfl) (bg 2 underlying202 rfl sizeOf23 rfl (dO underlying23 rfl (H1).get.2 rfl (aU (gG (hi _ (H1.right.right)) underlying23 rfl) (aU (dS rfl rfl (by omega)) (aU (iY rfl rfl) (jy rfl (fun h1 => ?_) (fun h1 => ?_)))))))))))))))))
 ·(try simp only [aI] at h1)
  refine bF (bF (bF (jw rfl rfl (aA (aj (xg (ay (ah (aV rfl (aA (aj (aJ (aK (aQ (.inl rfl) results133 rfl ?_))))))))))))))
  have e : nN G N a dl il = 1 := by unfold nN; rw [if_pos (by omega)]
  rw [Du (by rw [e]; decide), Dv (by rw [e]; decide), e]
  exact ⟨rfl, H1.right⟩
 ·(try simp only [aI] at h1)
  refine bC (bg 0 underlying202 rfl sizeOf3 rfl (bC (dO underlying3 rfl (H1).get.2 rfl (bC (aU (eu rfl rfl) (iU rfl rfl (aA (aj (aP rfl (fun h2 => ?_) (fun h2 => ?_))))))))))
  ·(try simp only [aI] at h2)
   refine ay (ah (aV rfl (aA (aj (aJ (aK (aQ (.inl rfl) results133 rfl ?_)))))))
   have e : nN G N a dl il = 1 := by unfold nN; rw [if_pos (by omega)]
   rw [Du (by rw [e]; decide), Dv (by rw [e]; decide), e]
   exact ⟨rfl, H1.right⟩
  ·(try simp only [aI] at h2)
   refine aT (aj (ay (ay ?_)))
   obtain ⟨vU, sV, jv, jc, iI, oz, mg, zT, zU, ED, kH⟩ := (H1.f2).pU
   refine ah (aN rfl (bP rfl (bg 0 underlying233 rfl sizeOf231 rfl (bg 3 underlying231 rfl sizeOf3 rfl (dO underlying3 rfl (kH).get.2 rfl (aU (vY rfl rfl) (aA (aj (aP rfl (fun h3 => ?_) (fun h3 => ?_))))))))))
   ·(try simp only [aI] at h3)
    refine ay (ah (aV rfl (aA (aj (aJ (aK (aQ (.inl rfl) results133 rfl ?_)))))))
    have e : nN G N a dl il = 3 := by unfold nN; rw [if_neg (by omega), if_pos (by omega)]
    have XB := kH.f5.f5.f5.f5.f5
    have XC := aB.jl iI oz mg rfl XB
    rw [Du (by rw [e]; decide), Dv (by rw [e]; decide), e]
    exact ⟨rfl, XC.f2.right⟩
   ·(try simp only [aI] at h3)
    refine aT (aj (ay (ah (aN rfl (bP rfl (bg 0 underlying233 rfl sizeOf231 rfl (bg 3 underlying231 rfl sizeOf3 rfl (dO underlying3 rfl (kH).get.2 rfl (aU (dS rfl rfl (by omega)) (bP rfl (bg 0 underlying233 rfl sizeOf231 rfl (bg 3 underlying231 rfl sizeOf3 rfl (aG (aS 3 (l' := [_, _, _, _, _]) kH sizeOf3 rfl rfl (by first | rfl | assumption) rfl rfl) ?_)))))))))))))
    rintro _ w7 H7
    refine aA (aj (ay (ay (ah (aN rfl (bP rfl (bg 0 underlying233 rfl sizeOf231 rfl (bg 2 underlying231 rfl sizeOf3 rfl (dO underlying3 rfl (H7).get.2 rfl (aU (fZ rfl rfl) (aA (aj (aP rfl (fun h4 => ?_) (fun h4 => ?_))))))))))))))
    ·(try simp only [aI] at h4)
     have XD := H7.drew
     have AL := aB.kp (XD.f6.f6.f6.f6.f6.f6)
     refine vV [5, 6] AL rfl (gQ 0 rfl AL rfl (gQ 1 rfl AL rfl (iQ 2 rfl AL rfl (dR 3 rfl AL 0 underlying233 rfl sizeOf231 rfl (dR 4 rfl AL 1 underlying231 rfl sizeOf67 rfl (gY 5 rfl AL (fun W hW => iH underlying67 rfl ((Kp.h hW)).get.2 rfl) (gY 6 rfl AL (fun W hW => bQ underlying202 rfl sizeOf202 rfl rfl ((Kp.h hW).f6).get.2) (jk 7 rfl (rP rfl func168 (pY XD (fun W HW => hd _ (HW.right.right.right.right.right.right)) (fun W HW => hi _ (HW.right.right.right.right.right.right)) (by omega) (by omega))) ?_))))))))
     rintro _ w8 ⟨d8, s8, rfl, H8⟩
     have IV := aB.kp (H8.f8.f8.f8.f8.f8.f8.f8.f8)
     refine bT IV (fun W hW => (Kp.h hW).right.right.f6.f6.f6.f6.f6.f6) ?_
     refine jk 8 rfl (lV H8 underlying67 sizeOf202 zeroValue202 rfl rfl rfl (by decide) (by decide)) ?_
     rintro l9 w9 H9
     have Qg := aB.kp (H9.f9.f9.f9.f9.f9.f9.f9.f9.f9)
     refine bT Qg (fun W hW => (Kp.h hW).right.f8.f8.f8.f8.f8.f8.f8.f8) ?_
     refine jk 9 rfl (fF H9.f7 underlying67 (show (prog.info? 202).map (fun i => (i.zero, i.size, i.bytes)) = some (some (.agg #[.int .i64 0, .slice none 0 0, .slice none 0 0]), 3, 56) by kernel_rfl) rfl rfl rfl ((H9).aO) (aC (by first | rfl | assumption) (aC (by first | rfl | exact Rd.one ((H9.f2).aO)) (aC (by first | rfl | exact Rd.one ((H9.f3).aO)) aZ))) (by omega) (by omega)) ?_
     rintro l10 w10 qH
     have Vs := qH.f2.right
     have MF := aB.kp (Vs.f8.f8.f8.f8.f8.f8.f8.f8)
     refine dN MF (by kernel_rfl) ?_
     refine iQ 10 rfl MF rfl (dR 11 rfl MF 0 underlying233 rfl sizeOf231 rfl (dR 12 rfl MF 1 underlying231 rfl sizeOf67 rfl ?_))
     refine dJ 13 rfl (by kernel_rfl) (aS 1 (l' := [_, _, _, _, _]) Vs.f4 sizeOf67 rfl rfl (by first | rfl | exact Rd.one ((Vs).aO)) rfl rfl) ?_
     rintro _ w12 uf
     have yY := aB.kp (uf.f8.f8.f8.f8.f8.f8.f8.f8)
     refine dN yY (by kernel_rfl) ?_
     have hadd : 0 < op := by omega
     refine nT (aj (ay (ah (aV rfl (aA (aj (aJ (aQ (.inl rfl) results133 rfl ?_))))))))
     have e : nN G N a dl il = 0 := by unfold nN; rw [if_neg (by omega), if_neg (by omega)]
     rw [BQ e hadd, BR e hadd, e]
     have X := (uf.f8.right.f6.f6.f3.f7.f5.f7.f7).jo.swap.jo.swap
     have X2 := aB.um X.f3
     refine ⟨rfl, aB.oZ (gv := vU) (nv := l10) (gs := jv) (now := jc ++ [⟨a, d8, dl, s8, il⟩]) (ed := (eH G N : Nat) + 1) ⟨iI.1, by rw [Gj]; omega, iI.2.2.1, iI.2.2.2.1, iI.2.2.2.2.1, TF iI.2.2.2.2.2 ⟨b2, b3⟩⟩ oz (by rw [List.map_append, mg]; rfl) (by rw [Gj]; rfl) (X2.of_eq (by unfold yV; ac_rfl))⟩
    ·(try simp only [aI] at h4)
     have Qh := H7.drew
     have rX := aB.kp (Qh.f6.f6.f6.f6.f6.f6)
     refine vV [5, 6] rX rfl (gQ 0 rfl rX rfl (gQ 1 rfl rX rfl (iQ 2 rfl rX rfl (dR 3 rfl rX 0 underlying233 rfl sizeOf231 rfl (dR 4 rfl rX 0 underlying231 rfl sizeOf180 rfl (gY 5 rfl rX (fun W hW => iH underlying180 rfl ((Kp.h hW)).get.2 rfl) (gY 6 rfl rX (fun W hW => bQ underlying202 rfl sizeOf202 rfl rfl ((Kp.h hW).f6).get.2) (jk 7 rfl (rP rfl func168 (pY Qh (fun W HW => hd _ (HW.right.right.right.right.right.right)) (fun W HW => hi _ (HW.right.right.right.right.right.right)) (by omega) (by omega))) ?_))))))))
     rintro _ NY ⟨d13, s13, rfl, xC⟩
     have Dw := aB.kp (xC.f8.f8.f8.f8.f8.f8.f8.f8)
     refine bT Dw (fun W hW => (Kp.h hW).right.right.f6.f6.f6.f6.f6.f6) ?_
     refine jk 8 rfl (lV xC underlying67 sizeOf202 zeroValue202 rfl rfl rfl (by decide) (by decide)) ?_
     rintro Zp NZ yB
     have IW := aB.kp (yB.f9.f9.f9.f9.f9.f9.f9.f9.f9)
     refine bT IW (fun W hW => (Kp.h hW).right.f8.f8.f8.f8.f8.f8.f8.f8) ?_
     refine jk 9 rfl (iK (vs := [_]) yB underlying180 sizeOf67 zeroValue67 rfl rfl rfl (by decide) (aC (by first | rfl | exact Rd.one ((yB).aO)) aZ)) ?_
     rintro l15 PY wC
     have vS := aB.kp (wC.f10.f10.f10.f10.f10.f10.f10.f10.f10.f10)
     refine bT vS (fun W hW => (Kp.h hW).right.f9.f9.f9.f9.f9.f9.f9.f9.f9) ?_
     refine jk 10 rfl (fF wC.f6 underlying180 (show (prog.info? 67).map (fun i => (i.zero, i.size, i.bytes)) = some (some (.slice none 0 0), 1, 24) by kernel_rfl) rfl rfl rfl ((wC).aO) (aC (by first | rfl | exact Rd.one ((wC.f2).aO)) aZ) (by omega) (by omega)) ?_
     rintro YT w16 qY
     have Gl := qY.f2.right
     have xE := aB.kp (Gl.f9.f9.f9.f9.f9.f9.f9.f9.f9)
     refine dN xE (by kernel_rfl) ?_
     refine iQ 11 rfl xE rfl (dR 12 rfl xE 0 underlying233 rfl sizeOf231 rfl (dR 13 rfl xE 0 underlying231 rfl sizeOf180 rfl ?_))
     refine dJ 14 rfl (by kernel_rfl) (aS 0 (l' := [_, _, _, _, _]) Gl.f5 sizeOf180 rfl rfl (by first | rfl | exact Rd.one ((Gl).aO)) rfl rfl) ?_
     rintro _ Sv zB
     have yZ := aB.kp (zB.f9.f9.f9.f9.f9.f9.f9.f9.f9)
     refine dN yZ (by kernel_rfl) ?_
     have hadd : ¬ 0 < op := by omega
     refine nT (aj (ay (ah (aV rfl (aA (aj (aJ (aQ (.inl rfl) results133 rfl ?_))))))))
     have e : nN G N a dl il = 0 := by unfold nN; rw [if_neg (by omega), if_neg (by omega)]
     rw [Qd e hadd, Qe e hadd, e]
     have X := (zB.f9.right.f8.f8.f3.f8.f5.f6.f8.f8).jo.swap.jo.swap
     have X2 := aB.um (es := []) X.Dq.f3.f3.f4
     have X4 := aB.uo X2.ru.swap
     refine ⟨rfl, aB.oZ (gv := YT) (nv := sV) (gs := jv ++ [(Zp, [⟨a, d13, dl, s13, il⟩])]) (now := jc) (ed := (eH G N : Nat) + 1) ⟨MC iI.1 (List.cons_ne_nil _ _), by rw [IU]; omega, iI.2.2.1, iI.2.2.2.1, IQ iI.2.2.2.2.1 (by intro e he; rw [List.mem_singleton.1 he]; exact ⟨b2, b3⟩), iI.2.2.2.2.2⟩ (by rw [List.map_append, oz]; rfl) mg (by rw [IU]; rfl) (X4.of_eq (by unfold EC; ac_rfl))⟩
end
end Go.Proofs.YtddekefihgejoaaGreatDoor
end
