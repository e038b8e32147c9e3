import Derived.Test.YtgndbccogcofjaaGreatDoorZ2
import Derived.Test.YtgndbccogcofjaaGreatDoorZ9
import Derived.Test.YtgndbccogcofjaaGreatDoorZ4
import Derived.Test.YtgndbccogcofjaaGreatDoorZ3
import Derived.Test.YtgndbccogcofjaaGreatDoorZ7
set_option linter.unusedSimpArgs false
set_option linter.unusedVariables false
/- Texts of mine, joined, their names in short: Ring3 RingAny LL Flat Undo1 Undo2 LitS Eds UList. -/
section
namespace Go.Proofs.YtgndbccogcofjaaGreatDoor
open Go.RowKit
open _root_.Go.Proofs.Tryz
def Ag (m place : Nat) (n : Int) : Nat := (((place : Int) + n) % (m : Int)).toNat
theorem TD {m place : Nat} {n : Int} (h : 0 < m) : Ag m place n < m := by
  unfold Ag
  have h1 := Int.emod_nonneg ((place : Int) + n) (show (m : Int) ≠ 0 by omega)
  have h2 := Int.emod_lt_of_pos ((place : Int) + n) (show (0 : Int) < m by omega)
  omega
theorem Ia (a : Int) {m : Int} (h : 0 < m) : -m < a.tmod m ∧ a.tmod m < m := by
  have h2 := Int.tmod_lt_of_pos a h
  have h3 := Int.tmod_lt_of_pos (-a) h
  rw [Int.neg_tmod] at h3
  omega
theorem F7 (a m : Int) : a.tmod m % m = a % m := by
  rw [Int.tmod_def]
  exact Int.sub_mul_emod_self_left a m (a.tdiv m)
theorem VK (m place : Nat) (n : Int) (h : 0 < m) : (((place : Int) + n.tmod m).tmod m + m).tmod m = (Ag m place n : Int) := by
  have h1 := Ia ((place : Int) + n.tmod m) (show (0 : Int) < m by omega)
  have h2 := Int.emod_nonneg ((place : Int) + n) (show (m : Int) ≠ 0 by omega)
  unfold Ag
  rw [Int.toNat_of_nonneg h2, Int.tmod_eq_emod_of_nonneg (by omega), Int.add_emod_right, F7, Int.add_emod, F7, ← Int.add_emod]
section
variable {w0 w : World} {F : HP} {p place : Nat} {E : List (List Int)} {v : Value} {l : List Int} {way : Int}
theorem Fa (H : aB w0 w (dw p E place • F)) (hr : iI w0 F .i32 v l) :
    fG prog 233 #[.pointer (some ⟨p, 0, none⟩), .int .i64 way, v] w fun v' w' => v' = .int .i64 (wS E place way l).1 ∧ aB w0 w' (dw p (wS E place way l).2.1 (wS E place way l).2.2 • F) := by
  unfold wS
  by_cases h1 : way < 0 ∨ 2 < way
  · simp only [h1, if_true]; exact EZ H hr h1
  · simp only [h1, if_false]
    by_cases h2 : 1024 < l.length
    · simp only [h2, if_true]; exact Dx H hr (by omega) h2
    · simp only [h2, if_false]
      by_cases h3 : way ≠ 0 ∧ 0 < E.length
      · rw [if_pos h3]
        by_cases h4 : 1024 < l.length + (E.getD 0 []).length
        · rw [if_pos h4]; exact E8 H hr (by omega) (by omega) h3.2 h4
        · rw [if_neg h4]; exact Dy H hr (by omega) h3.2 (by omega)
      · rw [if_neg h3]
        by_cases h5 : way = 0 ∧ l.length = 0
        · rw [if_pos h5]; obtain ⟨rfl, h6⟩ := h5; exact zy H hr h6
        · rw [if_neg h5]; exact E5 H hr (by omega) (by omega) (by omega) h5
theorem Ah {n : Int} (H : aB w0 w (dw p [] place • F)) :
  fG prog 101 #[.pointer (some ⟨p, 0, none⟩), .int .i64 n] w fun v' w' => v' = .tuple #[.slice none 0 0, .int .i64 6] ∧ aB w0 w' (dw p [] place • F) := by
 obtain ⟨s, h, hs, hh, hE, hp, hm, ho, H1⟩ := H.ring
 have hb := H1.get.2
 refine gG func101 ntmps101 ?_
 dsimp only [bf, Nat.reduceAdd]
 refine ay (ah (aV rfl (aV rfl (aA (aj (ay (bF (ay (ah (aN rfl (bW rfl func177 (iL _ hb vN) ?_)))))))))))
 rintro _ _ ⟨rfl, rfl⟩
 refine aV rfl (aA (aj (mO (ay (ah (aN rfl (bM rfl (bG 62 underlying170 rfl sizeOf3 rfl (dX underlying3 rfl hb (jT hs) (aU (fE rfl rfl) (aV rfl (aA (aj (aP rfl (fun h1 => ?_) (fun h => by exfalso; (try simp only [aF] at h); first | contradiction | omega | (simp at h <;> omega))))))))))))))))
 (try simp only [aF] at h1)
 refine ay (ah (aV rfl (aV rfl (aA (aj (aI (aY (aK (mW (.inl rfl) results101 rfl rfl ?_)))))))))
 exact ⟨rfl, H⟩
theorem BN {n : Int} (H : aB w0 w (dw p E place • F)) (h0 : 0 < E.length) :
  fG prog 101 #[.pointer (some ⟨p, 0, none⟩), .int .i64 n] w fun v' w' => ∃ u, v' = .tuple #[u, .int .i64 0] ∧
   aB w0 w' (gW 21 .i32 u (E.getD (Ag E.length place n) []) • dw p E (Ag E.length place n) • F) := by
 obtain ⟨s, h, hs, hh, hE, hp, hm, ho, H⟩ := H.ring
 have hb := H.get.2
 have hlt := TD (place := place) (n := n) h0
 have ZO := VK E.length place n h0
 have hb1 := Ia n (show (0 : Int) < E.length by omega)
 have hb2 := Ia ((place : Int) + n.tmod E.length) (show (0 : Int) < E.length by omega)
 refine gG func101 ntmps101 ?_
 dsimp only [bf, Nat.reduceAdd]
 refine ay (ah (aV rfl (aV rfl (aA (aj (ay (bF (ay (ah (aN rfl (bW rfl func177 (iL _ hb vN) ?_)))))))))))
 rintro _ _ ⟨rfl, rfl⟩
 refine aV rfl (aA (aj (mO (ay (ah (aN rfl (bM rfl (bG 62 underlying170 rfl sizeOf3 rfl (dX underlying3 rfl hb (jT hs) (aU (fE rfl rfl) (aV rfl (aA (aj (aP rfl (fun h => by exfalso; (try simp only [aF] at h); first | contradiction | omega | (simp at h <;> omega)) (fun h1 => ?_)))))))))))))))
 (try simp only [aF] at h1)
 refine aO (aQ (aj (ay ?_)))
 refine kM (n := 30) [0, 1, 2, 3, 4, 5, 6, 7, 8, 9, 10, 11, 12, 13, 14, 15, 16, 17, 18, 19, 20, 21, 22, 23, 24, 25, 26, 27, 28, 29] (fun W => W.heap = w.heap) (by kernel_rfl) (by kernel_rfl) rfl ?_
 have hS0 : (fun W => W.heap = w.heap) (w.drew) := rfl
 have Y9 := H.drew
 refine iD 0 rfl hS0 rfl (iD 1 rfl hS0 rfl (jS 2 rfl hS0 rfl (gV 3 rfl hS0 63 underlying170 rfl sizeOf3 rfl ?_)))
 refine jB 4 rfl hS0 (fun W hW => jR underlying3 rfl (by rw [hW]; exact hb) (Dw hs)) ?_
 refine iD 5 rfl hS0 rfl (iD 6 rfl hS0 rfl (jS 7 rfl hS0 rfl (gV 8 rfl hS0 62 underlying170 rfl sizeOf3 rfl ?_)))
 refine jB 9 rfl hS0 (fun W hW => jR underlying3 rfl (by rw [hW]; exact hb) (jT hs)) ?_
 refine jr 10 rfl hS0 (fun _ => KL rfl rfl (by omega)) (jr 11 rfl hS0 (fun _ => fC rfl rfl (by omega)) (iD 12 rfl hS0 rfl (jS 13 rfl hS0 rfl (gV 14 rfl hS0 62 underlying170 rfl sizeOf3 rfl ?_))))
 refine jB 15 rfl hS0 (fun W hW => jR underlying3 rfl (by rw [hW]; exact hb) (jT hs)) ?_
 refine jr 16 rfl hS0 (fun _ => KL rfl rfl (by omega)) (iD 17 rfl hS0 rfl (jS 18 rfl hS0 rfl (gV 19 rfl hS0 62 underlying170 rfl sizeOf3 rfl ?_)))
 refine jB 20 rfl hS0 (fun W hW => jR underlying3 rfl (by rw [hW]; exact hb) (jT hs)) ?_
 refine jr 21 rfl hS0 (fun _ => fC rfl rfl (by omega)) (iD 22 rfl hS0 rfl (jS 23 rfl hS0 rfl (gV 24 rfl hS0 62 underlying170 rfl sizeOf3 rfl ?_)))
 refine jB 25 rfl hS0 (fun W hW => jR underlying3 rfl (by rw [hW]; exact hb) (jT hs)) ?_
 refine jr 26 rfl hS0 (fun _ => KL rfl rfl (by omega)) (jS 27 rfl hS0 rfl (gV 28 rfl hS0 63 underlying170 rfl sizeOf3 rfl ?_))
 refine gI 29 rfl (by kernel_rfl) (dJ Y9 sizeOf3 rfl rfl rfl (by rw [iK hs]; decide)) ?_
 rintro _ w2 H2
 rw [ZO, iT hs] at H2
 refine CW (by kernel_rfl) ?_
 refine qQ (aj (ay (ah (aN rfl (aN rfl (bM rfl (bG 63 underlying170 rfl sizeOf3 rfl (dX underlying3 rfl H2.get.2 (Dw hs) (bW rfl func179 (qG hs hh (by omega) H2.get.2) ?_)))))))))
 rintro _ w3 ⟨rfl, hD2⟩
 have H3 := H2.lW hD2
 refine KI (yH (Aa rfl func178 rfl rfl) (nG H3 (fun W HW => HW.right.wR (i := Ag E.length place n) hlt) (by have := hm (E.getD (Ag E.length place n) []) (by rw [List.getD_eq_getElem?_getD, List.getElem?_eq_getElem hlt]; simp); omega))) (qN rfl) ?_
 rintro u w4 H4
 refine aV rfl (aV rfl (aA (aj (aI (mW (.inl rfl) results101 rfl rfl ?_)))))
 exact ⟨u, rfl, (aB.nX hs hh hE (.inl hlt) hm ho H4.d3).swap⟩
theorem Dz (H : aB w0 w (dw p [] place • F)) :
  fG prog 205 #[.pointer (some ⟨p, 0, none⟩)] w fun v' w' => v' = .tuple #[.slice none 0 0, .int .i64 6] ∧ aB w0 w' (dw p [] place • F) := by
 refine gG func205 ntmps205 ?_
 dsimp only [bf, Nat.reduceAdd]
 refine ay (ah (aV rfl (aV rfl (aA (aj (ay (ah (aN rfl (bW rfl func101 (Ah H) ?_)))))))))
 rintro _ w1 ⟨rfl, H1⟩
 refine FP rfl rfl (FP rfl rfl (aV rfl (aV rfl (aA (aj (aI (mW (.inl rfl) results205 rfl rfl ?_)))))))
 exact ⟨rfl, H1⟩
theorem OB {m place : Nat} (h : place < m) : Ag m place 0 = place := by
  unfold Ag
  rw [Int.add_zero, Int.emod_eq_of_lt (by omega) (by omega)]
  omega
theorem Fb (H : aB w0 w (dw p E place • F)) (h0 : 0 < E.length) :
  fG prog 205 #[.pointer (some ⟨p, 0, none⟩)] w fun v' w' => ∃ u, v' = .tuple #[u, .int .i64 0] ∧
   aB w0 w' (gW 21 .i32 u (E.getD place []) • dw p E place • F) := by
 obtain ⟨s, h, hs, hh, hE, hp, hm, ho, H1⟩ := H.ring
 have hpl : Ag E.length place 0 = place := OB (by omega)
 refine gG func205 ntmps205 ?_
 dsimp only [bf, Nat.reduceAdd]
 refine ay (ah (aV rfl (aV rfl (aA (aj (ay (ah (aN rfl (bW rfl func101 (BN H h0) ?_)))))))))
 rintro _ w1 ⟨u, rfl, H1⟩
 refine FP rfl rfl (FP rfl rfl (aV rfl (aV rfl (aA (aj (aI (mW (.inl rfl) results205 rfl rfl ?_)))))))
 rw [hpl] at H1; exact ⟨u, rfl, H1⟩
theorem aB.OC {s : List Value} {h : Nat} (H : aB w0 w (vO s h E • F)) : aB w0 w (vO s h E • vO s h E • F) := H.CG
theorem OD {s : List Value} {h n p : Nat} (ho : ∀ v ∈ s, v.oneCell' = true) : ∀ v ∈ (bQ s h n p).toList, v.oneCell' = true := by
  intro v hv
  simp [bQ] at hv
  rcases hv with rfl | hv | rfl | rfl | rfl <;> first | rfl | exact ho v hv
theorem DC (H : aB w0 w (dw p E place • F)) :
  fG prog 99 #[.pointer (some ⟨p, 0, none⟩)] w fun v' w' => ∃ q, v' = .pointer (some ⟨q, 0, none⟩) ∧ aB w0 w' (dw q E place • dw p E place • F) := by
 obtain ⟨s, h, hs, hh, hE, hp, hm, ho, H⟩ := H.ring
 have hb := H.get.2
 refine gG func99 ntmps99 ?_
 dsimp only [bf, Nat.reduceAdd]
 refine ay (ah (aV rfl (aA (aj (ay (ay (ah (aN rfl (bW rfl func177 (iL _ hb vN) ?_)))))))))
 rintro _ _ ⟨rfl, rfl⟩
 refine aA (aj (mO (aO (aj (ay (ah (aN rfl (bM rfl (aU (dn underlying170 rfl sizeOf170 (iK hs) rfl hb) (iy (sQ H zeroValue170) ?_))))))))))
 rintro _ w2 ⟨b2, rfl, H2⟩
 refine aJ (dI H2 sizeOf170 (iK hs) rfl rfl rfl (OD ho)) ?_
 rintro _ w3 H3
 refine aA (aj (ay (ah (aV rfl (aA (aj (aI (aH (.inl rfl) results99 rfl ?_))))))))
 exact ⟨_, rfl, aB.nX hs hh hE hp hm ho (aB.nX hs hh hE hp hm ho (H3.EP.OC.r4)).swap.EP⟩
end
end Go.Proofs.YtgndbccogcofjaaGreatDoor
end
section
namespace Go.Proofs.YtgndbccogcofjaaGreatDoor
open Go.RowKit
open _root_.Go.Proofs.Tryz
section
variable {w0 w : World} {F : HP} {p place : Nat} {E : List (List Int)}
theorem Ld (H : aB w0 w (dw p E place • F)) : E.length ≤ 60 ∧ (place < E.length ∨ place = 0) ∧ ∀ e ∈ E, e.length ≤ 1024 := by
  obtain ⟨s, h, hs, hh, hE, hpl, hE2, hs1, H1⟩ := H.ring
  exact ⟨hE, hpl, hE2⟩
theorem Fe (H : aB w0 w (dw p E place • F)) : fG prog 205 #[.pointer (some ⟨p, 0, none⟩)] w fun v w' => ∃ u, v = .tuple #[u, .int .i64 (if E.length = 0 then 6 else 0)] ∧ aB w0 w' (gW 21 .i32 u (E.getD place []) • dw p E place • F) := by
  by_cases h0 : E.length = 0
  · obtain rfl := List.eq_nil_of_length_eq_zero h0
    exact (Dz H).mono fun v w' h => ⟨_, h.1, h.2.jf none⟩
  · rw [if_neg h0]
    exact (Fb H (by omega)).mono fun v w' h => h
end
end Go.Proofs.YtgndbccogcofjaaGreatDoor
end
section
namespace Go.Proofs.YtgndbccogcofjaaGreatDoor
open Go.RowKit
def wC (I : Hp) (k : IntKind) (vs : List Value) (ls : List (List Int)) : Prop := vs.length = ls.length ∧ ∀ j, j < ls.length → xQ I k (vs.getD j undef) (ls.getD j [])
def X5 (k : IntKind) (vs : List Value) (ls : List (List Int)) : HP := know (fun I => wC I k vs ls) fun _ _ hl h => ⟨h.1, fun j hj => (h.2 j hj).mono hl⟩
def LL (e : TypeId) (k : IntKind) (v : Value) (ls : List (List Int)) : HP := tN fun vs => Row e 1 v ls.length vs • X5 k vs ls
theorem qp {α : Type _} {l m : List α} {j : Nat} {d : α} (h : j < l.length) : (l ++ m).getD j d = l.getD j d := by simp [List.getD_eq_getElem?_getD, List.getElem?_append_left h]
theorem nY {α : Type _} {l m : List α} {j : Nat} {d : α} (h : l.length ≤ j) : (l ++ m).getD j d = m.getD (j - l.length) d := by simp [List.getD_eq_getElem?_getD, List.getElem?_append_right h]
theorem F8 {α : Type _} {l : List α} {i j : Nat} {d : α} : (l.drop i).getD j d = l.getD (i + j) d := by simp [List.getD_eq_getElem?_getD]
theorem Ai {α : Type _} {l : List α} {i j : Nat} {d : α} (h : j < i) : (l.take i).getD j d = l.getD j d := by simp [List.getD_eq_getElem?_getD, List.getElem?_take, h]
theorem uJ {α : Type _} {l : List α} {j : Nat} {d : α} (h : j < l.length) : l.getD j d ∈ l := by rw [List.getD_eq_getElem?_getD, List.getElem?_eq_getElem h]; exact List.getElem_mem h
theorem wC.app {I : Hp} {k : IntKind} {vs us : List Value} {ls ms : List (List Int)} (h : wC I k vs ls) (g : wC I k us ms) : wC I k (vs ++ us) (ls ++ ms) := by
  refine ⟨by simp [h.1, g.1], fun j hj => ?_⟩
  by_cases hl : j < ls.length
  · rw [qp (by rw [h.1]; exact hl), qp hl]; exact h.2 j hl
  · have hj' : j - ls.length < ms.length := by simp at hj; omega
    rw [nY (by rw [h.1]; omega), nY (by omega), h.1]; exact g.2 _ hj'
theorem wC.drop {I : Hp} {k : IntKind} {vs : List Value} {ls : List (List Int)} (h : wC I k vs ls) (i : Nat) : wC I k (vs.drop i) (ls.drop i) := by
  refine ⟨by simp [h.1], fun j hj => ?_⟩
  rw [F8, F8]
  exact h.2 _ (by simp at hj; omega)
theorem wC.take {I : Hp} {k : IntKind} {vs : List Value} {ls : List (List Int)} (h : wC I k vs ls) (i : Nat) : wC I k (vs.take i) (ls.take i) := by
  refine ⟨by simp [h.1], fun j hj => ?_⟩
  simp at hj
  rw [Ai (by omega), Ai (by omega)]
  exact h.2 _ (by omega)
theorem xQ.one {I : Hp} {k : IntKind} {v : Value} {l : List Int} (h : xQ I k v l) : wC I k [v] [l] := ⟨rfl, fun j hj => by
  obtain rfl : j = 0 := by simp at hj; omega
  exact h⟩
theorem xQ.Qh {I : Hp} {k : IntKind} {v : Value} {l : List Int} (h : xQ I k v l) : v.oneCell' = true := by obtain ⟨a, c, rfl, _⟩ := h; rfl
section
variable {w0 w : World} {F : HP} {e : TypeId} {k : IntKind} {v : Value} {vs us : List Value} {ls ms : List (List Int)} {l : List Int}
theorem Rd.X6 {n : Nat} {xs : List Value} (hr : Rd w 1 v n xs) {i : Nat} (h : i ≤ n) : Rd w 1 (ni 1 0 i v) i (xs.take i) := by
  have h1 := hr.cut (Nat.zero_le i) h
  simpa using h1
end
end Go.Proofs.YtgndbccogcofjaaGreatDoor
end
section
namespace Go.Proofs.YtgndbccogcofjaaGreatDoor
open Go.RowKit
theorem Qi {α : Type _} {enc : α → List Value} {sz : Nat} (he : ∀ a, (enc a).length = sz) (l : List α) : (l.flatMap enc).length = l.length * sz := by
  induction l with
  | nil => simp
  | cons a l ih => simp [he, ih, Nat.add_mul, Nat.add_comm]
theorem pV {α : Type _} {enc : α → List Value} {sz : Nat} (he : ∀ a, (enc a).length = sz) {l : List α} {k : Nat} (hk : k < l.length) (d : α) : ((l.flatMap enc).drop (k * sz)).take sz = enc (l.getD k d) := by
  have h1 : l = l.take k ++ l.getD k d :: l.drop (k + 1) := by
    rw [List.getD_eq_getElem?_getD, List.getElem?_eq_getElem hk]
    simp
  have h2 : ((l.take k).flatMap enc).length = k * sz := by rw [Qi he, List.length_take, Nat.min_eq_left (by omega)]
  conv => lhs; rw [h1]
  rw [List.flatMap_append, List.drop_append, h2]
  simp [h2, List.take_append, he]
theorem lq {P : Program} {L : List (Nat × Value)} {w : World} {ty : TypeId} {x : Operand} {t : TypeId} {d : TypeDesc} {b o n c sz n' k : Nat} {xs ys : List Value} (hr : Rd w sz (.slice (some ⟨b, o, none⟩) n c) n' xs) (hk : k < n') (hu : P.underlying t = some d) (hd : GU d = true) (hs : ∀ w, (sizeOf t).run P w = .ok sz w)
    (hx : ev L x = some (.pointer (some ⟨b, o + (k : Int).toNat * sz, none⟩))) (hy : (xs.drop (k * sz)).take sz = ys) (hl : ys.length = sz) : Val P L (.load t x) ty w (.agg ys.toArray) w :=
  vI (by rw [hu]; rfl) (FT hu hd) hs hl hx (fun j u hj => by
    have hjl : j < sz := by rw [← hl]; exact (List.getElem?_eq_some_iff.1 hj).1
    rw [hr.atS hk hjl, List.getD_eq_getElem?_getD]
    rw [← hy, List.getElem?_take, if_pos hjl, List.getElem?_drop] at hj
    rw [hj]; rfl)
end Go.Proofs.YtgndbccogcofjaaGreatDoor
end
section
namespace Go.Proofs.YtgndbccogcofjaaGreatDoor
open Go.RowKit
open _root_.Go.Proofs.Tryz
theorem iU (w : World) (v1 v2 : Value) (l1 l2 : List Int) (h1 : iw w .i32 v1 l1) (h2 : iw w .i32 v2 l2) :
  fG prog 22 #[v1, v2] w fun v w' => v = .bool (l1 == l2) ∧ rZ w w' := by
 obtain ⟨a1, c1, rfl, hc1, hm1, hr1⟩ := h1.open
 obtain ⟨a2, c2, rfl, hc2, hm2, hr2⟩ := h2.open
 clear h1 h2
 refine gG func22 ntmps22 ?_
 dsimp only [bf, Nat.reduceAdd]
 refine ay (ah (aV rfl (aA (aj (ay (ay (ah (aN rfl (aU (fO underlying22 rfl) (aN rfl (aU (fO underlying22 rfl) (aU (bY rfl rfl) (aA (aj (aP rfl (fun h1 => ?_) (fun h1 => ?_))))))))))))))))
 ·(try simp only [aF] at h1)
  try (exfalso; first | contradiction | omega)
  all_goals
   refine ay (ah (aV rfl (aA (aj (aI (aK (aH (.inl rfl) results22 rfl ?_)))))))
   exact ⟨by rw [show (l1 == l2) = false from beq_eq_false_iff_ne.2 (by rintro rfl; exact h1 rfl)], rZ.refl _⟩
 ·(try simp only [aF] at h1)
  try (exfalso; first | contradiction | omega)
  all_goals
   refine aO (aj (ay (ay (ah (aV rfl (aA (aj (bF ?_))))))))
   refine gQ [(0, _), (1, _)] (fun (k : Nat) => [(5, .int .i64 (k : Int))]) (fun (k : Nat) W => k ≤ l1.length ∧ l1.length = l2.length ∧ l1.take k = l2.take k ∧ rZ w W) (fun (k : Nat) => l1.length - k) (0) (Sub.cons rfl (Sub.cons rfl (Sub.nil _))) (Sub.cons rfl (Sub.nil _)) ⟨by omega, by omega, by simp, rZ.refl _⟩ ?_
   rintro k w1 ⟨hk, hl, ht, hD⟩
   dsimp only [List.cons_append, List.nil_append]
   refine ay (ay (ah (aN rfl (aN rfl (aU (fO underlying22 rfl) (aU (eF rfl rfl) (aA (aj (aP rfl (fun h2 => ?_) (fun h2 => ?_))))))))))
   ·(try simp only [aF] at h2)
    try (exfalso; first | contradiction | omega)
    all_goals
     refine aO (aj (ay (bF (ay ?_))))
     obtain ⟨b1, o1, rfl, hq1⟩ := hr1 (by omega)
     obtain ⟨b2, o2, rfl, hq2⟩ := hr2 (by omega)
     have hc1 := hq1 k (by omega)
     have hc2 := hq2 k (by omega)
     refine kM (n := 9) [0, 1, 2, 3, 4, 5, 6, 7, 8] (fun W => W.heap = w1.heap) (by kernel_rfl) (by kernel_rfl) rfl ?_
     have hS0 : (fun W => W.heap = w1.heap) (w1.drew) := rfl
     refine iD 0 rfl hS0 rfl (iD 1 rfl hS0 rfl (jr 2 rfl hS0 (fun _ => gX underlying22 sizeOf21 rfl rfl (by omega)) ?_))
     refine jB 3 rfl hS0 (fun W hW => kU (dB underlying21 rfl) rfl (by rw [zX (hW.trans hD.heap)]; simpa using hc1)) ?_
     refine iD 4 rfl hS0 rfl (iD 5 rfl hS0 rfl (jr 6 rfl hS0 (fun _ => gX underlying22 sizeOf21 rfl rfl (by omega)) ?_))
     refine jB 7 rfl hS0 (fun W hW => kU (dB underlying21 rfl) rfl (by rw [zX (hW.trans hD.heap)]; simpa using hc2)) ?_
     refine jr 8 rfl hS0 (fun _ => bY rfl rfl) (qQ (aj (aP rfl (fun h3 => ?_) (fun h3 => ?_))))
     ·(try simp only [aF] at h3)
      try (exfalso; first | contradiction | omega)
      all_goals
       refine ay (ah (aV rfl (aA (aj (aI (aY (aK (aK (aY (aK (aH (.inl rfl) results22 rfl ?_)))))))))))
       exact ⟨by rw [show (l1 == l2) = false from beq_eq_false_iff_ne.2 (by rintro rfl; exact h3 rfl)], hD.drew⟩
     ·(try simp only [aF] at h3)
      try (exfalso; first | contradiction | omega)
      all_goals
       refine aO (aQ (aj (ah (aN rfl (aU (fC rfl rfl (by omega)) (aV rfl (aA ?_)))))))
       refine eG (k + 1) ?_ ?_ ?_ ?_
       ·exact (Sub.cons rfl (Sub.nil _))
       ·exact (Sub.cons rfl (Sub.cons rfl (Sub.nil _)))
       ·(try dsimp only)
        first | done | exact ⟨by omega, by omega, Hr (by omega) (by omega) ht (by simpa using h3), hD.drew⟩
       ·(try dsimp only); omega
   ·(try simp only [aF] at h2)
    try (exfalso; first | contradiction | omega)
    all_goals
     refine eU (aZ (aZ (bK (aj (ay (ah (aV rfl (aA (aj (aI (aH (.inl rfl) results22 rfl ?_)))))))))))
     exact ⟨by rw [show (l1 == l2) = true from beq_iff_eq.2 (by rw [List.take_of_length_le (by omega), List.take_of_length_le (by omega)] at ht; exact ht)], hD⟩
section
variable {w0 w : World} {F : HP} {v d s z d2 z2 u1 u2 u3 : Value} {L dl il Xh X7 l1 l2 l3 : List Int} {a a2 : Int}
def ZP (L : List Int) (a : Int) (dl : List Int) : Bool := decide (0 ≤ a ∧ a + dl.length ≤ L.length) && ((L.drop a.toNat).take dl.length == dl)
def uE (L : List Int) (a : Int) (dl il : List Int) : Int := if ZP L a dl then (if 1024 < (L.length : Int) - dl.length + il.length then 3 else 0) else 1
def uL (L : List Int) (a : Int) (dl il : List Int) : List Int := if uE L a dl il = 0 then L.take a.toNat ++ il ++ L.drop (a.toNat + dl.length) else []
abbrev X8 (a : Int) (d z : Value) : Value := .agg #[.int .i64 a, d, z]
theorem ru (H : aB w0 w F) (hd : iI w0 F .i32 d dl) (hi : iI w0 F .i32 z il) (b2 : dl.length ≤ 35184372087808) (b3 : il.length ≤ 35184372087808) :
  fG prog 220 #[X8 a d z] w fun v' w' => ∃ d' s', v' = X8 a d' s' ∧ aB w0 w' (gW 21 .i32 d' dl • gW 21 .i32 s' il • F) := by
 refine gG func220 ntmps220 ?_
 dsimp only [bf, Nat.reduceAdd]
 refine ay (ah (iy (jo (l := [_, _, _]) H rfl rfl) ?_))
 rintro _ w1 ⟨b1, rfl, H1⟩
 refine iy (gY (l := [_, _, _]) H1 zeroValue101 rfl) ?_
 rintro _ w2 ⟨b2, rfl, H2⟩
 refine aA (aj (ay ?_))
 have Qj := H2.drew
 have uK := aB.kp (Qj.f2.f2)
 refine yI [1, 3, 6] uK rfl (gV 0 rfl uK 0 underlying101 rfl sizeOf3 rfl (jB 1 rfl uK (fun W hW => jR underlying3 rfl ((Kp.h hW).f2).get.2 rfl) (gV 2 rfl uK 1 underlying101 rfl sizeOf22 rfl (jB 3 rfl uK (fun W hW => jR underlying22 rfl ((Kp.h hW).f2).get.2 rfl) (gV 5 rfl uK 2 underlying101 rfl sizeOf22 rfl (jB 6 rfl uK (fun W hW => jR underlying22 rfl ((Kp.h hW).f2).get.2 rfl) (kQ 4 rfl (wJ rfl func178 (nG Qj (fun W HW => hd _ (HW.right.right)) (by omega))) ?_)))))))
 rintro u3 w3 H3
 have Fg := aB.kp (H3.f3.f3.f3)
 refine dZ Fg (fun W hW => (Kp.h hW).right.f2.f2) ?_
 refine kQ 7 rfl (wJ rfl func178 (nG H3 (fun W HW => hi _ (HW.right.right.right)) (by omega))) ?_
 rintro u4 w4 H4
 have xW := aB.kp (H4.f4.f4.f4.f4)
 refine dZ xW (fun W hW => (Kp.h hW).right.f3.f3.f3) ?_
 obtain ⟨au3, cu3, ZQ, -⟩ := iw.open ((H4.f2).aS)
 subst ZQ
 obtain ⟨au4, cu4, eu4, -⟩ := iw.open ((H4).aS)
 subst eu4
 refine jr 8 rfl xW (fun _ => fF (pl := #[(0, 1), (1, 1), (2, 1)]) (#[_, _, _]) underlying101 zeroValue101 (fun w => by kernel_rfl) rfl (rfl)) ?_
 refine gI 9 rfl (by kernel_rfl) (dG 0 (l' := [_, _, _]) (us := [_, _, _]) H4.f3 sizeOf101 rfl rfl rfl (aC (by first | rfl | assumption) (aC (by first | rfl | exact Rd.one ((H4.f2).aS)) (aC (by first | rfl | exact Rd.one ((H4).aS)) cZ))) rfl rfl) ?_
 rintro _ w7 H7
 have Aj := aB.kp (H7.f4.f4.f4.f4)
 refine gB Aj (by kernel_rfl) ?_
 refine qQ (aj (aI ?_))
 refine vF (.inl rfl) (PU results220 rfl underlying101 rfl (by rw [show (prog.info? 101).map (·.size) = some 3 from by kernel_rfl]; rfl) (H7).get.2) ?_
 exact ⟨_, _, rfl, H7.right.f3.right.f2⟩
theorem Ak (H : aB w0 w F) (hd : iI w0 F .i32 d dl) (hi : iI w0 F .i32 z il) (b2 : dl.length ≤ 35184372087808) (b3 : il.length ≤ 35184372087808) :
  fG prog 241 #[X8 a d z] w fun v' w' => ∃ d' s', v' = X8 a d' s' ∧ aB w0 w' (gW 21 .i32 d' il • gW 21 .i32 s' dl • F) := by
 refine gG func241 ntmps241 ?_
 dsimp only [bf, Nat.reduceAdd]
 refine ay (ah (iy (jo (l := [_, _, _]) H rfl rfl) ?_))
 rintro _ w1 ⟨b1, rfl, H1⟩
 refine iy (gY (l := [_, _, _]) H1 zeroValue101 rfl) ?_
 rintro _ w2 ⟨b2, rfl, H2⟩
 refine aA (aj (ay (ah (bG 0 underlying101 rfl sizeOf3 rfl (dX underlying3 rfl (H2.f2).get.2 rfl (bG 2 underlying101 rfl sizeOf22 rfl (dX underlying22 rfl (H2.f2).get.2 rfl (bG 1 underlying101 rfl sizeOf22 rfl (dX underlying22 rfl (H2.f2).get.2 rfl ?_)))))))))
 obtain ⟨az, cz, ez, -⟩ := iw.open (hi _ (H2.right.right))
 subst ez
 obtain ⟨ad, cd, ed, -⟩ := iw.open (hd _ (H2.right.right))
 subst ed
 refine aU (fF (pl := #[(0, 1), (1, 1), (2, 1)]) (#[_, _, _]) underlying101 zeroValue101 (fun w => by kernel_rfl) rfl (rfl)) (bW rfl func220 (ru H2 (fun W HW => hi _ (HW.right.right)) (fun W HW => hd _ (HW.right.right)) (by omega) (by omega)) ?_)
 rintro _ w5 ⟨d5, s5, rfl, H5⟩
 refine aJ (dG 0 (l' := [_, _, _]) (us := [_, _, _]) H5.f3 sizeOf101 rfl rfl rfl (aC (by first | rfl | assumption) (aC (by first | rfl | exact Rd.one ((H5).aS)) (aC (by first | rfl | exact Rd.one ((H5.f2).aS)) cZ))) rfl rfl) ?_
 rintro _ w6 H6
 refine aA (aj (aI ?_))
 refine vF (.inl rfl) (PU results241 rfl underlying101 rfl (by rw [show (prog.info? 101).map (·.size) = some 3 from by kernel_rfl]; rfl) (H6).get.2) ?_
 exact ⟨_, _, rfl, H6.right.f3.right.f2.f2⟩
end
end Go.Proofs.YtgndbccogcofjaaGreatDoor
end
section
namespace Go.Proofs.YtgndbccogcofjaaGreatDoor
open Go.RowKit
section
variable {w0 w : World} {F : HP} {v d s z d2 z2 u1 u2 u3 : Value} {L dl il Xh X7 l1 l2 l3 : List Int} {a a2 : Int}
def jK (a a2 : Int) (dl il Xh X7 : List Int) : Nat := if Xh.length = 0 ∧ a2 = a + il.length then 1 else if il.length = 0 ∧ X7.length = 0 ∧ a = a2 + Xh.length then 2 else 0
def jA (k : Nat) (a a2 : Int) : Int := if k = 1 then a else if k = 2 then a2 else 0
def jD (k : Nat) (dl Xh : List Int) : List Int := if k = 1 then dl else if k = 2 then Xh ++ dl else []
def jI (k : Nat) (il X7 : List Int) : List Int := if k = 1 then il ++ X7 else []
end
end Go.Proofs.YtgndbccogcofjaaGreatDoor
end
section
namespace Go.Proofs.YtgndbccogcofjaaGreatDoor
open Go.RowKit
section
variable {P : Program} {L : List (Nat × Value)} {w0 w : World} {F : HP} {ty : TypeId}
theorem Le (l : List Value) : ∀ (i : Nat) (cells : Array Value), cells.size = i + l.length → (l.zipIdx i).foldl (fun cs (x : Value × Nat) => cs.setIfInBounds (0 + x.2) x.1) cells = (cells.toList.take i ++ l).toArray := by
  induction l with
  | nil => intro i cells hs; simp [List.take_of_length_le (show cells.toList.length ≤ i by simp; simp at hs; omega)]
  | cons v r ih =>
    intro i cells hs
    rw [List.zipIdx_cons, List.foldl_cons]
    rw [ih (i + 1) _ (by simp at hs ⊢; omega)]
    congr 1
    have hi : i < cells.toList.length := by simp at hs ⊢; omega
    rw [Array.toList_setIfInBounds, Nat.zero_add, List.take_succ_eq_append_getElem (by simpa using hi), List.take_set_of_le (Nat.le_refl _)]
    simp
theorem rF {t e sz : Nat} {x : Operand} {cs : Array Value} {z : Value} (H : aB w0 w F) (ht : P.underlying t = some (.slice e)) (hs : ∀ w, (sizeOf e).run P w = .ok sz w) (hz : ∀ w, (zeroValue e).run P w = .ok z w) (hz1 : z.cells.size = sz)
    (hx : ev L x = some (.agg cs)) (hn : cs.size = sz) (h0 : 0 < sz) (PL : sz ≤ 16777216) :
    rM P L (.buildSlice t 1 #[(0, x)]) ty w fun v w' => aB w0 w' (Row e sz v 1 cs.toList • F) := by
  refine oW (v := .slice (some ⟨w.heap.size, 0, none⟩) 1 1) (w' := w.alloc (.cells cs e)) ?_ ?_
  · intro ρ hρ d pos mJ g
    simp only [execOp, Instr.buildSlice, Sem.run_bind, run_underlying ht, Result.andThen_ok, hs]
    rw [if_neg (by omega), if_neg (by omega)]
    have hf : ∀ q : Array Value, q.size = sz → Instr.fill (fun i => some (i * sz, sz)) q [(0, .agg cs)] = some cs := fun q hq => by
      simp only [Instr.fill, Value.cells, hn]
      rw [if_neg (by simp [hq])]
      have := Le cs.toList 0 q (by simp [hn, hq])
      simp only [Nat.zero_mul]
      rw [← Array.foldl_toList, Array.toList_zipIdx]
      simpa using this
    have hf1 := hf ((Array.range sz).map (z.cells[· % z.cells.size]!)) (by simp)
    simp [hz, hρ _ _ hx, hf1, newRow]
  · refine (H.alloc _).vJ (by simp [hn]) rfl (Nat.le_refl _) (by omega) (by simp [hn]) fun j hj => ?_
    rw [Nat.zero_add, List.getD_eq_getElem?_getD]
    have : j < cs.size := by omega
    simp [this]
theorem Qk (l : List Value) : ∀ (o i : Nat) (cells : Array Value), o + i + l.length ≤ cells.size → (l.zipIdx i).foldl (fun cs (x : Value × Nat) => cs.setIfInBounds (o + x.2) x.1) cells = (cells.toList.take (o + i) ++ l ++ cells.toList.drop (o + i + l.length)).toArray := by
  induction l with
  | nil => intro o i cells hs; simp
  | cons v r ih =>
    intro o i cells hs
    rw [List.zipIdx_cons, List.foldl_cons]
    rw [ih o (i + 1) _ (by simp at hs ⊢; omega)]
    congr 1
    simp only [List.length_cons] at hs ⊢
    have hi : o + i < cells.toList.length := by rw [Array.length_toList]; omega
    rw [Array.toList_setIfInBounds, show o + (i + 1) = o + i + 1 from by omega, List.take_succ_eq_append_getElem (by simpa using hi), List.take_set_of_le (Nat.le_refl _), List.drop_set_of_lt (by omega)]
    simp
    omega
end
section
variable {w0 w : World} {F : HP}
end
end Go.Proofs.YtgndbccogcofjaaGreatDoor
end
section
namespace Go.Proofs.YtgndbccogcofjaaGreatDoor
open Go.RowKit
structure dD where
  a : Int
  d : Value
  dl : List Int
  i : Value
  il : List Int
instance : Inhabited dD := ⟨⟨0, .slice none 0 0, [], .slice none 0 0, []⟩⟩
def dD.enc (e : dD) : List Value := [.int .i64 e.a, e.d, e.i]
theorem dD.zA (e : dD) : e.enc.length = 3 := rfl
def dD.Xi (I : Hp) (e : dD) : Prop := xQ I .i32 e.d e.dl ∧ xQ I .i32 e.i e.il
theorem dD.Xi.mono {I I' : Hp} {e : dD} (hl : Hp.le I I') (h : e.Xi I) : e.Xi I' := ⟨h.1.mono hl, h.2.mono hl⟩
def dD.says (e : dD) : Int × List Int × List Int := (e.a, e.dl, e.il)
def BO (I : Hp) (es : List dD) : Prop := ∀ k, k < es.length → (es.getD k default).Xi I
theorem BO.mono {I I' : Hp} {es : List dD} (hl : Hp.le I I') (h : BO I es) : BO I' es := fun k hk => (h k hk).mono hl
theorem BO.app {I : Hp} {es fs : List dD} (h : BO I es) (g : BO I fs) : BO I (es ++ fs) := fun k hk => by
  by_cases hl : k < es.length
  · rw [qp hl]; exact h k hl
  · rw [nY (by omega)]; exact g _ (by simp at hk; omega)
theorem BO.one {I : Hp} {e : dD} (h : e.Xi I) : BO I [e] := fun k hk => by
  obtain rfl : k = 0 := by simp at hk; omega
  exact h
def jH (es : List dD) : HP := know (fun I => BO I es) fun _ _ hl h => h.mono hl
def edK (e : dD) : HP := know (fun I => e.Xi I) fun _ _ hl h => h.mono hl
def Fh (v : Value) (es : List dD) : HP := Row 101 3 v es.length (es.flatMap dD.enc) • jH es
def Jy (I : Hp) (sz : Nat) (v : Value) (n : Nat) (xs : List Value) : Prop := xs.length = n * sz ∧ ∃ a c, v = .slice a n c ∧ n ≤ c ∧ (c : Int) ≤ 9223372036854775807 ∧
  (0 < n → ∃ b o cs e fr, a = some ⟨b, o, none⟩ ∧ I b = some (.cells cs e fr) ∧ ∀ j, j < n * sz → cs[o + j]? = some (xs.getD j undef))
theorem Jy.mono {I I' : Hp} {sz n : Nat} {v : Value} {xs : List Value} (hl : Hp.le I I') (h : Jy I sz v n xs) : Jy I' sz v n xs := by
  obtain ⟨h0, a, c, h1, h2, h3, h4⟩ := h
  exact ⟨h0, a, c, h1, h2, h3, fun hp => let ⟨b, o, cs, e, fr, e1, e2, e3⟩ := h4 hp; ⟨b, o, cs, e, fr, e1, hl _ _ e2, e3⟩⟩
theorem Jy.rd {w : World} {m : Nat} {I : Hp} {sz n : Nat} {v : Value} {xs : List Value} (h : Jy I sz v n xs) (hI : ∀ k o, I k = some o → m ≤ k ∧ w.heap[k]? = some o) : Rd w sz v n xs := by
  obtain ⟨h0, a, c, h1, h2, h3, h4⟩ := h
  exact ⟨h0, a, c, h1, h2, h3, fun hp => let ⟨b, o, cs, e, fr, e1, e2, e3⟩ := h4 hp; ⟨b, o, e1, fun j hj => gK (hI _ _ e2).2 (e3 j hj)⟩⟩
theorem Jy.Qh {I : Hp} {sz n : Nat} {v : Value} {xs : List Value} (h : Jy I sz v n xs) : v.oneCell' = true := by obtain ⟨_, a, c, rfl, _⟩ := h; rfl
def Xj (I : Hp) (v : Value) (es : List dD) : Prop := Jy I 3 v es.length (es.flatMap dD.enc) ∧ BO I es
theorem Xj.mono {I I' : Hp} {v : Value} {es : List dD} (hl : Hp.le I I') (h : Xj I v es) : Xj I' v es := ⟨h.1.mono hl, h.2.mono hl⟩
def zW (v : Value) (es : List dD) : HP := know (fun I => Xj I v es) fun _ _ hl h => h.mono hl
def zB (I : Hp) (gs : List (Value × List dD)) : Prop := ∀ k, k < gs.length → Xj I (gs.getD k default).1 (gs.getD k default).2
theorem zB.mono {I I' : Hp} {gs : List (Value × List dD)} (hl : Hp.le I I') (h : zB I gs) : zB I' gs := fun k hk => (h k hk).mono hl
theorem zB.app {I : Hp} {es fs : List (Value × List dD)} (h : zB I es) (g : zB I fs) : zB I (es ++ fs) := fun k hk => by
  by_cases hl : k < es.length
  · rw [qp hl]; exact h k hl
  · rw [nY (by omega)]; exact g _ (by simp at hk; omega)
theorem zB.one {I : Hp} {v : Value} {es : List dD} (h : Xj I v es) : zB I [(v, es)] := fun k hk => by
  obtain rfl : k = 0 := by simp at hk; omega
  exact h
theorem zB.take {I : Hp} {gs : List (Value × List dD)} (h : zB I gs) (n : Nat) : zB I (gs.take n) := fun k hk => by
  simp at hk
  rw [Ai (by omega)]
  exact h k (by omega)
def nZ (gs : List (Value × List dD)) : HP := know (fun I => zB I gs) fun _ _ hl h => h.mono hl
def zC (v : Value) (gs : List (Value × List dD)) : HP := Row 35 1 v gs.length (gs.map (·.1)) • nZ gs
section
variable {w0 w : World} {F : HP} {v u : Value} {es fs : List dD} {e : dD} {gs : List (Value × List dD)} {a : Int} {d i : Value} {dl il : List Int}
theorem aB.DF (H : aB w0 w F) : aB w0 w (jH [] • F) := H.GY fun I k hk => by simp at hk
theorem aB.Jz (H : aB w0 w F) : aB w0 w (nZ [] • F) := H.GY fun I k hk => by simp at hk
theorem aB.qx (H : aB w0 w F) (a : Option Addr) : aB w0 w (Fh (.slice a 0 0) [] • F) := (H.DF.jf (e := 101) (sz := 3) a).deep
theorem aB.zD (H : aB w0 w F) (a : Option Addr) : aB w0 w (zC (.slice a 0 0) [] • F) := (H.Jz.jf (e := 35) (sz := 1) a).deep
theorem aB.Xk (H : aB w0 w (Fh v es • F)) : aB w0 w (Row 101 3 v es.length (es.flatMap dD.enc) • jH es • F) := H.flat
theorem aB.VL (H : aB w0 w (zC v gs • F)) : aB w0 w (Row 35 1 v gs.length (gs.map (·.1)) • nZ gs • F) := H.flat
theorem aB.uM (H : aB w0 w (Row 101 3 v (es.length + 1) (es.flatMap dD.enc ++ [.int .i64 a, d, i]) • Dc .i32 d dl • Dc .i32 i il • jH es • F)) : aB w0 w (Fh v (es ++ [⟨a, d, dl, i, il⟩]) • F) := by
  have h1 : aB w0 w (Dc .i32 d dl • Dc .i32 i il • jH es • Row 101 3 v (es.length + 1) (es.flatMap dD.enc ++ [.int .i64 a, d, i]) • F) := H.of_eq (by ac_rfl)
  have h2 : aB w0 w (edK ⟨a, d, dl, i, il⟩ • jH es • Row 101 3 v (es.length + 1) (es.flatMap dD.enc ++ [.int .i64 a, d, i]) • F) := h1.ES (qB (fun I h g => ⟨h, g⟩) _)
  have h3 : aB w0 w (jH (es ++ [⟨a, d, dl, i, il⟩]) • Row 101 3 v (es.length + 1) (es.flatMap dD.enc ++ [.int .i64 a, d, i]) • F) := h2.ES (qB (fun I h g => g.app (BO.one h)) _)
  refine aB.deep (h3.swap.of_eq ?_)
  rw [List.length_append, List.flatMap_append]
  simp [dD.enc]
theorem aB.rQ (H : aB w0 w (Fh v es • F)) : aB w0 w (zW v es • F) := by
  have hl := H.Xk.zh
  have H := H.Xk
  rcases H.uz with ⟨a, rfl, h1, h2, H1⟩ | ⟨g, o, c, cur, rfl, h2, h3, h4, h5, H1⟩
  · refine H1.ES (uG (fun I hI => ⟨⟨hl, a, 0, by rw [h1], by omega, by decide, fun h => by omega⟩, hI⟩) F)
  · exact H1.freeze.ES (qB (fun I hI hE => ⟨⟨hl, _, c, rfl, h2, h3, fun _ => ⟨g, o, cur, _, (0, 0), rfl, hI, h5⟩⟩, hE⟩) F)
theorem aB.yO (H : aB w0 w (zW v es • F)) : Rd w 3 v es.length (es.flatMap dD.enc) := let ⟨I, h, hI⟩ := H.vw; h.1.rd hI
theorem aB.X9 (H : aB w0 w (zW v es • F)) {k : Nat} (hk : k < es.length) : iw w .i32 (es.getD k default).d (es.getD k default).dl := let ⟨I, h, hI⟩ := H.vw; (h.2 k hk).1.rd hI
theorem aB.Ya (H : aB w0 w (zW v es • F)) {k : Nat} (hk : k < es.length) : iw w .i32 (es.getD k default).i (es.getD k default).il := let ⟨I, h, hI⟩ := H.vw; (h.2 k hk).2.rd hI
theorem aB.JA (H : aB w0 w (nZ gs • F)) {k : Nat} (hk : k < gs.length) : aB w0 w (zW (gs.getD k default).1 (gs.getD k default).2 • nZ gs • F) := H.CG.ES (uG (fun I h => h k hk) _)
theorem aB.Ql (H : aB w0 w (nZ gs • F)) (n : Nat) : aB w0 w (nZ (gs.take n) • F) := H.ES (uG (fun I h => h.take n) _)
theorem aB.uN (H : aB w0 w (Row 35 1 v (gs.length + 1) (gs.map (·.1) ++ [u]) • zW u es • nZ gs • F)) : aB w0 w (zC v (gs ++ [(u, es)]) • F) := by
  have h1 : aB w0 w (zW u es • nZ gs • Row 35 1 v (gs.length + 1) (gs.map (·.1) ++ [u]) • F) := H.of_eq (by ac_rfl)
  have h3 : aB w0 w (nZ (gs ++ [(u, es)]) • Row 35 1 v (gs.length + 1) (gs.map (·.1) ++ [u]) • F) := h1.ES (qB (fun I h g => g.app (zB.one h)) _)
  refine aB.deep (h3.swap.of_eq ?_)
  rw [List.length_append, List.map_append]
  rfl
theorem aB.DI (H : aB w0 w (jH es • F)) : ∀ x ∈ es.flatMap dD.enc, x.oneCell' = true := by
  obtain ⟨I, h, hI⟩ := H.vw
  intro x hx
  obtain ⟨e, he, hx⟩ := List.mem_flatMap.1 hx
  obtain ⟨k, hk, rfl⟩ := List.getElem_of_mem he
  have := h k hk
  rw [List.getD_eq_getElem?_getD, List.getElem?_eq_getElem hk] at this
  simp [dD.enc] at hx
  rcases hx with rfl | rfl | rfl
  · rfl
  · exact this.1.Qh
  · exact this.2.Qh
end
end Go.Proofs.YtgndbccogcofjaaGreatDoor
end
section
namespace Go.Proofs.YtgndbccogcofjaaGreatDoor
open Go.RowKit
open _root_.Go.Proofs.Tryz
abbrev fB := Int × List Int × List Int
def eY (G : List (List fB)) (N : List fB) : Nat := (G.map List.length).sum + N.length
def EB (e : fB) : Prop := e.2.1.length ≤ 35184372087808 ∧ e.2.2.length ≤ 35184372087808
theorem TF {N : List fB} {x : fB} (h : ∀ e ∈ N, EB e) (hx : EB x) : ∀ e ∈ N ++ [x], EB e := fun e he => by
  rcases List.mem_append.1 he with he | he
  · exact h e he
  · rw [List.mem_singleton.1 he]; exact hx
theorem JB {G : List (List fB)} {N : List fB} (h : ∀ g ∈ G, ∀ e ∈ g, EB e) (hx : ∀ e ∈ N, EB e) : ∀ g ∈ G ++ [N], ∀ e ∈ g, EB e := fun g hg => by
  rcases List.mem_append.1 hg with hg | hg
  · exact h g hg
  · rw [List.mem_singleton.1 hg]; exact hx
theorem Np {G : List (List fB)} {N : List fB} (h : ∀ g ∈ G, g ≠ []) (hx : N ≠ []) : ∀ g ∈ G ++ [N], g ≠ [] := fun g hg => by
  rcases List.mem_append.1 hg with hg | hg
  · exact h g hg
  · rw [List.mem_singleton.1 hg]; exact hx
def TG (G : List (List fB)) (N : List fB) (op : Int) : Prop := (∀ g ∈ G, g ≠ []) ∧ eY G N ≤ 16384 ∧ 0 ≤ op ∧ op ≤ 4611686018427387904 ∧ (∀ g ∈ G, ∀ e ∈ g, EB e) ∧ ∀ e ∈ N, EB e
theorem Lh {G : List (List fB)} (h : ∀ g ∈ G, g ≠ []) : G.length ≤ (G.map List.length).sum := by
  induction G with
  | nil => simp
  | cons g G ih =>
    have h1 := ih fun x hx => h x (by simp [hx])
    have h2 : 0 < g.length := List.length_pos_iff.2 (h g (by simp))
    simp; omega
theorem TG.len {G : List (List fB)} {N : List fB} {op : Int} (h : TG G N op) : G.length + N.length ≤ 16384 := by
  have := Lh h.1
  have := h.2.1
  unfold eY at this
  omega
def eX (p : Nat) (G : List (List fB)) (N : List fB) (op : Int) : HP := tN fun (x : Value × Value × List (Value × List dD) × List dD) =>
  fact (TG G N op ∧ x.2.2.1.map (fun g => g.2.map dD.says) = G ∧ x.2.2.2.map dD.says = N) • dH p (.cells #[x.1, x.2.1, .int .i64 op, .int .i64 (eY G N : Nat), .bool true] 180 (0, 0)) • zC x.1 x.2.2.1 • Fh x.2.1 x.2.2.2
section
variable {w0 w : World} {F : HP} {p : Nat} {G : List (List fB)} {N : List fB} {op : Int} {gv nv : Value} {gs : List (Value × List dD)} {now : List dD} {a : Int} {d z : Value} {dl il : List Int}
theorem aB.uO (H : aB w0 w (eX p G N op • F)) : ∃ gv nv gs now, TG G N op ∧ gs.map (fun g => g.2.map dD.says) = G ∧ now.map dD.says = N ∧ gs.length = G.length ∧ now.length = N.length ∧ G.length + N.length ≤ 16384 ∧
    aB w0 w (dH p (.cells #[gv, nv, .int .i64 op, .int .i64 (eY G N : Nat), .bool true] 180 (0, 0)) • Row 35 1 gv gs.length (gs.map (·.1)) • nZ gs • Row 101 3 nv now.length (now.flatMap dD.enc) • jH now • F) := by
  obtain ⟨⟨gv, nv, gs, now⟩, H⟩ := H.ng
  obtain ⟨⟨h1, h2, h3⟩, H⟩ := H.flat.fact
  refine ⟨gv, nv, gs, now, h1, h2, h3, ?_, ?_, h1.len, ?_⟩
  · rw [← h2]; simp
  · rw [← h3]; simp
  · have := H.flat
    unfold zC Fh at this
    exact this.of_eq (by ac_rfl)
theorem aB.qH (h1 : TG G N op) (h2 : gs.map (fun g => g.2.map dD.says) = G) (h3 : now.map dD.says = N) {ed : Int} (he : ed = (eY G N : Nat))
    (H : aB w0 w (dH p (.cells #[gv, nv, .int .i64 op, .int .i64 ed, .bool true] 180 (0, 0)) • zC gv gs • Fh nv now • F)) : aB w0 w (eX p G N op • F) := by
  subst he
  exact aB.iH (gv, nv, gs, now) (aB.deep (aB.kE ⟨h1, h2, h3⟩ (H.of_eq (by ac_rfl))))
theorem aB.jU (h1 : TG G N op) (h2 : gs.map (fun g => g.2.map dD.says) = G) (h3 : now.map dD.says = N) {ed : Int} (he : ed = (eY G N : Nat))
    (H : aB w0 w (dH p (.cells #[gv, nv, .int .i64 op, .int .i64 ed, .bool true] 180 (0, 0)) • Row 35 1 gv gs.length (gs.map (·.1)) • nZ gs • Row 101 3 nv now.length (now.flatMap dD.enc) • jH now • F)) : aB w0 w (eX p G N op • F) :=
  aB.qH h1 h2 h3 he (H.of_eq (by unfold zC Fh; ac_rfl))
theorem ji (H : aB w0 w (eX p G N op • F)) : fG prog 181 #[.pointer (some ⟨p, 0, none⟩)] w fun v w' => v = .bool false ∧ w = w' := by
 refine gG func181 ntmps181 ?_
 dsimp only [bf, Nat.reduceAdd]
 refine ay (ah (aV rfl (aA (aj (ay ?_)))))
 obtain ⟨wU, uP, jP, jy, jd, qR, oG, DJ, DK, Ib, lS⟩ := (H).uO
 refine ah (aN rfl (aU (iq underlying117 rfl rfl) (eP rfl (fun h1 => ?_) (fun h1 => ?_))))
 ·(try simp only [aF] at h1)
  try (exfalso; first | contradiction | omega)
  all_goals
   refine bD (bD (bD (bD (bD (fP rfl rfl (aV rfl (aA (aj (aI (aH (.inl rfl) results181 rfl ?_))))))))))
   exact ⟨rfl, rfl⟩
 ·(try simp only [aF] at h1)
  try (exfalso; first | contradiction | omega)
  all_goals
   refine aX (aN rfl (aX (bM rfl (aX (bG 4 underlying180 rfl sizeOf4 rfl (aX (dX underlying4 rfl (lS).get.2 rfl (aX (aU (jY rfl) (dL rfl rfl (aV rfl (aA (aj (aI (aH (.inl rfl) results181 rfl ?_)))))))))))))))
   exact ⟨rfl, rfl⟩
theorem Ic (H : aB w0 w F) : fG prog 215 #[] w fun v w' => ∃ p, v = .pointer (some ⟨p, 0, none⟩) ∧ aB w0 w' (eX p [] [] 0 • F) := by
 refine gG func215 ntmps215 ?_
 dsimp only [bf, Nat.reduceAdd]
 refine ay (ah (aV rfl (aA (aj (ay (ah (aU (fF (pl := #[(0, 4), (4, 1)]) (#[_, _, _, _, _]) underlying180 zeroValue180 (fun w => by kernel_rfl) rfl (rfl)) (iy (jo (l := [_, _, _, _, _]) H rfl rfl) ?_))))))))
 rintro _ w1 ⟨b1, rfl, H1⟩
 refine aV rfl (aA (aj (aI (aH (.inl rfl) results215 rfl ?_))))
 refine ⟨_, rfl, aB.qH (gv := .slice none 0 0) (nv := .slice none 0 0) (gs := []) (now := []) ⟨by simp, by decide, by decide, by decide, by simp, by simp⟩ rfl rfl rfl ?_⟩
 exact (((H1).qx none).zD none).of_eq (by ac_rfl)
theorem DL (H : aB w0 w (eX p G N op • F)) : fG prog 194 #[.pointer (some ⟨p, 0, none⟩)] w fun v w' => v = .int .i64 (eY G N : Nat) ∧ aB w0 w' (eX p G N op • F) := by
 refine gG func194 ntmps194 ?_
 dsimp only [bf, Nat.reduceAdd]
 refine ay (ah (aV rfl (aA (aj (ay (ay (ah (aN rfl (bW rfl func181 (ji H) ?_)))))))))
 rintro _ _ ⟨rfl, rfl⟩
 refine aA (aj (mO (aO (aj (ay ?_)))))
 obtain ⟨wU, uP, jP, jy, jd, qR, oG, DJ, DK, Ib, lS⟩ := (H).uO
 refine ah (aN rfl (bM rfl (bG 0 underlying180 rfl sizeOf178 rfl (bG 3 underlying178 rfl sizeOf3 rfl (dX underlying3 rfl (lS).get.2 rfl (aV rfl (aA (aj (aI (aH (.inl rfl) results194 rfl ?_))))))))))
 have Qm := lS.f5.f5.f5.f5.f5
 have Qn := aB.jU jd qR oG rfl Qm
 exact ⟨rfl, Qn⟩
theorem rU (H : aB w0 w (eX p G N op • F)) (hb : op < 4611686018427387904) : fG prog 163 #[.pointer (some ⟨p, 0, none⟩)] w fun v w' => v = .int .i64 0 ∧ aB w0 w' (eX p G N (op + 1) • F) := by
 have hop : 0 ≤ op := by obtain ⟨gv, nv, gs, now, k1, _⟩ := H.uO; exact k1.2.2.1
 refine gG func163 ntmps163 ?_
 dsimp only [bf, Nat.reduceAdd]
 refine ay (ah (aV rfl (aA (aj (ay (ay (ah (aN rfl (bW rfl func181 (ji H) ?_)))))))))
 rintro _ _ ⟨rfl, rfl⟩
 refine aA (aj (mO (aO (aj (ay ?_)))))
 obtain ⟨wU, uP, jP, jy, jd, qR, oG, DJ, DK, Ib, lS⟩ := (H).uO
 refine ah (aN rfl (bM rfl (bG 0 underlying180 rfl sizeOf178 rfl (bG 2 underlying178 rfl sizeOf3 rfl (dX underlying3 rfl (lS).get.2 rfl (aU (fC rfl rfl (by omega)) (bM rfl (bG 0 underlying180 rfl sizeOf178 rfl (bG 2 underlying178 rfl sizeOf3 rfl (aJ (aT 2 (l' := [_, _, _, _, _]) lS sizeOf3 rfl rfl (by first | rfl | assumption) rfl rfl) ?_))))))))))
 rintro _ w3 H3
 refine aA (aj (ay (ah (aV rfl (aA (aj (aI (aH (.inl rfl) results163 rfl ?_))))))))
 exact ⟨rfl, aB.jU ⟨jd.1, jd.2.1, by omega, by omega, jd.2.2.2.2⟩ qR oG rfl H3.f5.f5.f5.f5.f5⟩
def qU (G : List (List fB)) (N : List fB) (a : Int) (dl il : List Int) : Int := if dl.length + il.length = 0 ∨ a < 0 then 1 else if 16384 ≤ eY G N then 3 else 0
def Lj (G : List (List fB)) (N : List fB) (op a : Int) (dl il : List Int) : List (List fB) := if qU G N a dl il = 0 then (if 0 < op then G else G ++ [[(a, dl, il)]]) else G
def Ll (G : List (List fB)) (N : List fB) (op a : Int) (dl il : List Int) : List fB := if qU G N a dl il = 0 then (if 0 < op then N ++ [(a, dl, il)] else N) else N
theorem Ie {x : fB} : eY G (N ++ [x]) = eY G N + 1 := by simp [eY]; omega
theorem JC {x : fB} : eY (G ++ [[x]]) N = eY G N + 1 := by simp [eY]; omega
theorem DN (h : qU G N a dl il ≠ 0) : Lj G N op a dl il = G := by unfold Lj; rw [if_neg h]
theorem DR (h : qU G N a dl il ≠ 0) : Ll G N op a dl il = N := by unfold Ll; rw [if_neg h]
theorem Ce (h : qU G N a dl il = 0) (ho : 0 < op) : Lj G N op a dl il = G := by unfold Lj; rw [if_pos h, if_pos ho]
theorem Ci (h : qU G N a dl il = 0) (ho : 0 < op) : Ll G N op a dl il = N ++ [(a, dl, il)] := by unfold Ll; rw [if_pos h, if_pos ho]
theorem Qo (h : qU G N a dl il = 0) (ho : ¬ 0 < op) : Lj G N op a dl il = G ++ [[(a, dl, il)]] := by unfold Lj; rw [if_pos h, if_neg ho]
theorem Qp (h : qU G N a dl il = 0) (ho : ¬ 0 < op) : Ll G N op a dl il = N := by unfold Ll; rw [if_pos h, if_neg ho]
theorem vP (H : aB w0 w (eX p G N op • F)) (hd : iI w0 F .i32 d dl) (hi : iI w0 F .i32 z il) (b2 : dl.length ≤ 35184372087808) (b3 : il.length ≤ 35184372087808) :
  fG prog 164 #[.pointer (some ⟨p, 0, none⟩), X8 a d z] w fun v w' => v = .int .i64 (qU G N a dl il) ∧ aB w0 w' (eX p (Lj G N op a dl il) (Ll G N op a dl il) op • F) := by
 refine gG func164 ntmps164 ?_
 dsimp only [bf, Nat.reduceAdd]
 refine ay (ah (iy (jo (l := [_, _, _]) H rfl rfl) ?_))
 rintro _ w1 ⟨b1, rfl, H1⟩
 refine aV rfl (aA (aj (ay (ay (ah (aN rfl (bW rfl func181 (ji H1.f2) ?_)))))))
 rintro _ _ ⟨rfl, rfl⟩
 refine aA (aj (mO (aO (aj (ay (ay (ah (bG 1 underlying101 rfl sizeOf22 rfl (dX underlying22 rfl (H1).get.2 rfl (aU (jC (hd _ (H1.right.right)) underlying22 rfl) (bG 2 underlying101 rfl sizeOf22 rfl (dX underlying22 rfl (H1).get.2 rfl (aU (jC (hi _ (H1.right.right)) underlying22 rfl) (aU (fC rfl rfl (by omega)) (aU (fE rfl rfl) (eP rfl (fun h1 => ?_) (fun h1 => ?_)))))))))))))))))
 ·(try simp only [aF] at h1)
  refine bD (bD (bD (fP rfl rfl (aA (aj (wK (ay (ah (aV rfl (aA (aj (aI (aK (aH (.inl rfl) results164 rfl ?_))))))))))))))
  have e : qU G N a dl il = 1 := by unfold qU; rw [if_pos (by omega)]
  rw [DN (by rw [e]; decide), DR (by rw [e]; decide), e]
  exact ⟨rfl, H1.right⟩
 ·(try simp only [aF] at h1)
  refine aX (bG 0 underlying101 rfl sizeOf3 rfl (aX (dX underlying3 rfl (H1).get.2 rfl (aX (aU (eF rfl rfl) (dL rfl rfl (aA (aj (aP rfl (fun h2 => ?_) (fun h2 => ?_))))))))))
  ·(try simp only [aF] at h2)
   refine ay (ah (aV rfl (aA (aj (aI (aK (aH (.inl rfl) results164 rfl ?_)))))))
   have e : qU G N a dl il = 1 := by unfold qU; rw [if_pos (by omega)]
   rw [DN (by rw [e]; decide), DR (by rw [e]; decide), e]
   exact ⟨rfl, H1.right⟩
  ·(try simp only [aF] at h2)
   refine aO (aj (ay (ay ?_)))
   obtain ⟨wU, uP, jP, jy, jd, qR, oG, DJ, DK, Ib, lS⟩ := (H1.f2).uO
   refine ah (aN rfl (bM rfl (bG 0 underlying180 rfl sizeOf178 rfl (bG 3 underlying178 rfl sizeOf3 rfl (dX underlying3 rfl (lS).get.2 rfl (aU (jh rfl rfl) (aA (aj (aP rfl (fun h3 => ?_) (fun h3 => ?_))))))))))
   ·(try simp only [aF] at h3)
    refine ay (ah (aV rfl (aA (aj (aI (aK (aH (.inl rfl) results164 rfl ?_)))))))
    have e : qU G N a dl il = 3 := by unfold qU; rw [if_neg (by omega), if_pos (by omega)]
    have Ho5 := lS.f5.f5.f5.f5.f5
    have Hc6 := aB.jU jd qR oG rfl Ho5
    rw [DN (by rw [e]; decide), DR (by rw [e]; decide), e]
    exact ⟨rfl, Hc6.f2.right⟩
   ·(try simp only [aF] at h3)
    refine aO (aj (ay (ah (aN rfl (bM rfl (bG 0 underlying180 rfl sizeOf178 rfl (bG 3 underlying178 rfl sizeOf3 rfl (dX underlying3 rfl (lS).get.2 rfl (aU (fC rfl rfl (by omega)) (bM rfl (bG 0 underlying180 rfl sizeOf178 rfl (bG 3 underlying178 rfl sizeOf3 rfl (aJ (aT 3 (l' := [_, _, _, _, _]) lS sizeOf3 rfl rfl (by first | rfl | assumption) rfl rfl) ?_)))))))))))))
    rintro _ w7 H7
    refine aA (aj (ay (ay (ah (aN rfl (bM rfl (bG 0 underlying180 rfl sizeOf178 rfl (bG 2 underlying178 rfl sizeOf3 rfl (dX underlying3 rfl (H7).get.2 rfl (aU (dF rfl rfl) (aA (aj (aP rfl (fun h4 => ?_) (fun h4 => ?_))))))))))))))
    ·(try simp only [aF] at h4)
     have Yb := H7.drew
     have Bq := aB.kp (Yb.f6.f6.f6.f6.f6.f6)
     refine yI [5, 6] Bq rfl (iD 0 rfl Bq rfl (iD 1 rfl Bq rfl (jS 2 rfl Bq rfl (gV 3 rfl Bq 0 underlying180 rfl sizeOf178 rfl (gV 4 rfl Bq 1 underlying178 rfl sizeOf35 rfl (jB 5 rfl Bq (fun W hW => jR underlying35 rfl ((Kp.h hW)).get.2 rfl) (jB 6 rfl Bq (fun W hW => dn underlying101 rfl sizeOf101 rfl rfl ((Kp.h hW).f6).get.2) (kQ 7 rfl (wJ rfl func220 (ru Yb (fun W HW => hd _ (HW.right.right.right.right.right.right)) (fun W HW => hi _ (HW.right.right.right.right.right.right)) (by omega) (by omega))) ?_))))))))
     rintro _ w8 ⟨d8, s8, rfl, H8⟩
     have OE := aB.kp (H8.f8.f8.f8.f8.f8.f8.f8.f8)
     refine dZ OE (fun W hW => (Kp.h hW).right.right.f6.f6.f6.f6.f6.f6) ?_
     refine kQ 8 rfl (rF H8 underlying35 sizeOf101 zeroValue101 rfl rfl rfl (by decide) (by decide)) ?_
     rintro l9 w9 H9
     have Lm := aB.kp (H9.f9.f9.f9.f9.f9.f9.f9.f9.f9)
     refine dZ Lm (fun W hW => (Kp.h hW).right.f8.f8.f8.f8.f8.f8.f8.f8) ?_
     refine kQ 9 rfl (iR H9.f7 underlying35 (show (prog.info? 101).map (fun i => (i.zero, i.size, i.bytes)) = some (some (.agg #[.int .i64 0, .slice none 0 0, .slice none 0 0]), 3, 56) by kernel_rfl) rfl rfl rfl ((H9).aS) (aC (by first | rfl | assumption) (aC (by first | rfl | exact Rd.one ((H9.f2).aS)) (aC (by first | rfl | exact Rd.one ((H9.f3).aS)) cZ))) (by omega) (by omega)) ?_
     rintro l10 w10 oZ
     have Lp := oZ.f2.right
     have F9 := aB.kp (Lp.f8.f8.f8.f8.f8.f8.f8.f8)
     refine gB F9 (by kernel_rfl) ?_
     refine jS 10 rfl F9 rfl (gV 11 rfl F9 0 underlying180 rfl sizeOf178 rfl (gV 12 rfl F9 1 underlying178 rfl sizeOf35 rfl ?_))
     refine gI 13 rfl (by kernel_rfl) (aT 1 (l' := [_, _, _, _, _]) Lp.f4 sizeOf35 rfl rfl (by first | rfl | exact Rd.one ((Lp).aS)) rfl rfl) ?_
     rintro _ w12 xR
     have zF := aB.kp (xR.f8.f8.f8.f8.f8.f8.f8.f8)
     refine gB zF (by kernel_rfl) ?_
     have hadd : 0 < op := by omega
     refine qQ (aj (ay (ah (aV rfl (aA (aj (aI (aH (.inl rfl) results164 rfl ?_))))))))
     have e : qU G N a dl il = 0 := by unfold qU; rw [if_neg (by omega), if_neg (by omega)]
     rw [Ce e hadd, Ci e hadd, e]
     have X := (xR.f8.right.f6.f6.f3.f7.f5.f7.f7).kF.swap.kF.swap
     have X2 := aB.uM X.f3
     refine ⟨rfl, aB.qH (gv := wU) (nv := l10) (gs := jP) (now := jy ++ [⟨a, d8, dl, s8, il⟩]) (ed := (eY G N : Nat) + 1) ⟨jd.1, by rw [Ie]; omega, jd.2.2.1, jd.2.2.2.1, jd.2.2.2.2.1, TF jd.2.2.2.2.2 ⟨b2, b3⟩⟩ qR (by rw [List.map_append, oG]; rfl) (by rw [Ie]; rfl) (X2.of_eq (by unfold zC; ac_rfl))⟩
    ·(try simp only [aF] at h4)
     have Qq := H7.drew
     have sW := aB.kp (Qq.f6.f6.f6.f6.f6.f6)
     refine yI [5, 6] sW rfl (iD 0 rfl sW rfl (iD 1 rfl sW rfl (jS 2 rfl sW rfl (gV 3 rfl sW 0 underlying180 rfl sizeOf178 rfl (gV 4 rfl sW 0 underlying178 rfl sizeOf176 rfl (jB 5 rfl sW (fun W hW => jR underlying176 rfl ((Kp.h hW)).get.2 rfl) (jB 6 rfl sW (fun W hW => dn underlying101 rfl sizeOf101 rfl rfl ((Kp.h hW).f6).get.2) (kQ 7 rfl (wJ rfl func220 (ru Qq (fun W HW => hd _ (HW.right.right.right.right.right.right)) (fun W HW => hi _ (HW.right.right.right.right.right.right)) (by omega) (by omega))) ?_))))))))
     rintro _ Po ⟨d13, s13, rfl, xE⟩
     have yw := aB.kp (xE.f8.f8.f8.f8.f8.f8.f8.f8)
     refine dZ yw (fun W hW => (Kp.h hW).right.right.f6.f6.f6.f6.f6.f6) ?_
     refine kQ 8 rfl (rF xE underlying35 sizeOf101 zeroValue101 rfl rfl rfl (by decide) (by decide)) ?_
     rintro ZR MX yK
     have Qr := aB.kp (yK.f9.f9.f9.f9.f9.f9.f9.f9.f9)
     refine dZ Qr (fun W hW => (Kp.h hW).right.f8.f8.f8.f8.f8.f8.f8.f8) ?_
     refine kQ 9 rfl (pG (vs := [_]) yK underlying176 sizeOf35 zeroValue35 rfl rfl rfl (by decide) (aC (by first | rfl | exact Rd.one ((yK).aS)) cZ)) ?_
     rintro l15 Pq yu
     have yx := aB.kp (yu.f10.f10.f10.f10.f10.f10.f10.f10.f10.f10)
     refine dZ yx (fun W hW => (Kp.h hW).right.f9.f9.f9.f9.f9.f9.f9.f9.f9) ?_
     refine kQ 10 rfl (iR yu.f6 underlying176 (show (prog.info? 35).map (fun i => (i.zero, i.size, i.bytes)) = some (some (.slice none 0 0), 1, 24) by kernel_rfl) rfl rfl rfl ((yu).aS) (aC (by first | rfl | exact Rd.one ((yu.f2).aS)) cZ) (by omega) (by omega)) ?_
     rintro l16 w16 tX
     have Lr := tX.f2.right
     have Nq := aB.kp (Lr.f9.f9.f9.f9.f9.f9.f9.f9.f9)
     refine gB Nq (by kernel_rfl) ?_
     refine jS 11 rfl Nq rfl (gV 12 rfl Nq 0 underlying180 rfl sizeOf178 rfl (gV 13 rfl Nq 0 underlying178 rfl sizeOf176 rfl ?_))
     refine gI 14 rfl (by kernel_rfl) (aT 0 (l' := [_, _, _, _, _]) Lr.f5 sizeOf176 rfl rfl (by first | rfl | exact Rd.one ((Lr).aS)) rfl rfl) ?_
     rintro _ SL ER
     have JD := aB.kp (ER.f9.f9.f9.f9.f9.f9.f9.f9.f9)
     refine gB JD (by kernel_rfl) ?_
     have hadd : ¬ 0 < op := by omega
     refine qQ (aj (ay (ah (aV rfl (aA (aj (aI (aH (.inl rfl) results164 rfl ?_))))))))
     have e : qU G N a dl il = 0 := by unfold qU; rw [if_neg (by omega), if_neg (by omega)]
     rw [Qo e hadd, Qp e hadd, e]
     have X := (ER.f9.right.f8.f8.f3.f8.f5.f6.f8.f8).kF.swap.kF.swap
     have X2 := aB.uM (es := []) X.DF.f3.f3.f4
     have X4 := aB.uN X2.rQ.swap
     refine ⟨rfl, aB.qH (gv := l16) (nv := uP) (gs := jP ++ [(ZR, [⟨a, d13, dl, s13, il⟩])]) (now := jy) (ed := (eY G N : Nat) + 1) ⟨Np jd.1 (List.cons_ne_nil _ _), by rw [JC]; omega, jd.2.2.1, jd.2.2.2.1, JB jd.2.2.2.2.1 (by intro e he; rw [List.mem_singleton.1 he]; exact ⟨b2, b3⟩), jd.2.2.2.2.2⟩ (by rw [List.map_append, qR]; rfl) oG (by rw [JC]; rfl) (X4.of_eq (by unfold Fh; ac_rfl))⟩
end
end Go.Proofs.YtgndbccogcofjaaGreatDoor
end
