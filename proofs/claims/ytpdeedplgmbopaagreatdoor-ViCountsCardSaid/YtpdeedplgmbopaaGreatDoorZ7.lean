import Derived.Test.YtpdeedplgmbopaaGreatDoorZ4
import Derived.Test.YtpdeedplgmbopaaGreatDoorZ5
import Derived.Test.YtpdeedplgmbopaaGreatDoorZ3
set_option linter.unusedSimpArgs false
set_option linter.unusedVariables false
/- Texts of mine, joined, their names in short: Ring Ring2 Ring3 RingAny LL Flat Undo1 Undo2 Eds. -/
section
namespace Go.Proofs.YtpdeedplgmbopaaGreatDoor
open Go.RowKit
open _root_.Go.Proofs.Tryz
def dN (s : List Value) (h n p : Nat) : Array Value := (Value.bool true :: (s ++ [.int .i64 h, .int .i64 n, .int .i64 p])).toArray
section
variable {s : List Value} {h n p : Nat}
theorem nM (hs : s.length = 60) : (dN s h n p).size = 64 := by simp [dN, hs]
theorem Ag : (dN s h n p)[0]? = some (.bool true) := by simp [dN]
theorem NI (hs : s.length = 60) {i : Nat} (hi : i < 60) : (dN s h n p)[1 + i]? = some (s.getD i undef) := by
  simp [dN, Nat.add_comm 1 i, List.getElem?_append_left (show i < s.length by omega), List.getD_eq_getElem?_getD, show i < s.length by omega]
theorem AL (hs : s.length = 60) : (dN s h n p)[61]? = some (.int .i64 h) := by simp [dN, hs]
theorem oC (hs : s.length = 60) : (dN s h n p)[62]? = some (.int .i64 n) := by simp [dN, hs]
theorem J5 (hs : s.length = 60) : (dN s h n p)[63]? = some (.int .i64 p) := by simp [dN, hs]
theorem Mc (hs : s.length = 60) (x : Nat) : (dN s h n p).setIfInBounds 61 (.int .i64 x) = dN s x n p := by
  apply Array.ext'; simp [dN, List.set_append, hs]
theorem Md (hs : s.length = 60) (x : Nat) : (dN s h n p).setIfInBounds 62 (.int .i64 x) = dN s h x p := by
  apply Array.ext'; simp [dN, List.set_append, hs]
theorem pI (hs : s.length = 60) (x : Nat) : (dN s h n p).setIfInBounds 63 (.int .i64 x) = dN s h n x := by
  apply Array.ext'; simp [dN, List.set_append, hs]
theorem Ah (hs : s.length = 60) {i : Nat} (hi : i < 60) (v : Value) : (dN s h n p).setIfInBounds (1 + i) v = dN (s.set i v) h n p := by
  apply Array.ext'; simp [dN, Nat.add_comm 1 i, List.set_append, hs, hi]
end
def Qv (I : Hp) (s : List Value) (h : Nat) (E : List (List Int)) : Prop := ∀ i, i < E.length → Ew I .i32 (s.getD ((h + i) % 60) undef) (E.getD i [])
def Bq (s : List Value) (h : Nat) (E : List (List Int)) : HP := know (fun I => Qv I s h E) fun _ _ hl hk i hi => (hk i hi).mono hl
def fA (p : Nat) (E : List (List Int)) (place : Nat) : HP := uZ fun (x : List Value × Nat) =>
  fact (x.1.length = 60 ∧ x.2 < 60 ∧ E.length ≤ 60 ∧ (place < E.length ∨ place = 0) ∧ (∀ e ∈ E, e.length ≤ 1024) ∧ ∀ v ∈ x.1, v.oneCell' = true) • dW p (.cells (dN x.1 x.2 E.length place) 207 (0, 0)) • Bq x.1 x.2 E
section
variable {w0 w : World} {F : HP} {p place : Nat} {E : List (List Int)}
theorem V.ring (H : V w0 w (fA p E place • F)) : ∃ s h, s.length = 60 ∧ h < 60 ∧ E.length ≤ 60 ∧ (place < E.length ∨ place = 0) ∧ (∀ e ∈ E, e.length ≤ 1024) ∧ (∀ v ∈ s, v.oneCell' = true) ∧ V w0 w (dW p (.cells (dN s h E.length place) 207 (0, 0)) • Bq s h E • F) := by
  obtain ⟨⟨s, h⟩, H⟩ := H.nN
  obtain ⟨⟨h1, h2, h3, h4, h5, h6⟩, H⟩ := H.flat.fact
  exact ⟨s, h, h1, h2, h3, h4, h5, h6, H.flat⟩
theorem V.yD {s : List Value} {h : Nat} (h1 : s.length = 60) (h2 : h < 60) (h3 : E.length ≤ 60) (h4 : place < E.length ∨ place = 0) (h5 : ∀ e ∈ E, e.length ≤ 1024) (h6 : ∀ v ∈ s, v.oneCell' = true) (H : V w0 w (dW p (.cells (dN s h E.length place) 207 (0, 0)) • Bq s h E • F)) : V w0 w (fA p E place • F) :=
  V.jv (s, h) (V.deep (V.lJ ⟨h1, h2, h3, h4, h5, h6⟩ H.deep))
theorem OI (H : V w0 w F) : iI prog 110 #[] w fun v w' => ∃ p, v = .pointer (some ⟨p, 0, none⟩) ∧ V w0 w' (fA p [] 0 • F) := by
  refine WB func110 ntmps110 ?_
  refine jR O (iV (Z (mF (pl := #[(0, 1), (1, 60), (61, 1), (62, 1), (63, 1)]) (dN (List.replicate 60 (.slice none 0 0)) 0 0 0) cZ zeroValue207 (fun w => by kernel_rfl) O (by kernel_rfl)) (jV (Ve H O) ?_)))
  rintro _ w1 ⟨b1, rfl, H1⟩
  refine fC O (dK results110 O ?_)
  refine ⟨b1, O, V.yD (s := List.replicate 60 (.slice none 0 0)) (h := 0) (by simp) (by omega) (by simp) (.inr O) (by simp) (by intro v hv; rw [List.eq_of_mem_replicate hv]; rfl) ?_⟩
  exact V.swap (V.yB (fun I i hi => by simp at hi) H1)
theorem kQ (t : TypeId) {cs : Array Value} {fr : Nat × Nat} {m : Bool} (hb : w.heap[p]? = some (.cells cs t fr)) (h0 : cs[0]? = some (.bool m)) :
    iI prog 140 #[.pointer (some ⟨p, 0, none⟩)] w fun v w' => v = .bool (!m) ∧ w = w' := by
  refine jr func140 ntmps140 ?_
  refine jR O (bT O (Z (iR tu O O) (SS O (fun h1 => ?_))))
  (try simp only [aA] at h1)
  refine bg (bP O (bg (dL O (bg (bJ 0 cZ O aP O (bg (fV bZ O hb h0 (bg (Z (lC O) (ig O O (fC O (dK results140 O ?_))))))))))))
  exact ⟨O, O⟩
theorem V.Dn {s : List Value} {h i : Nat} (H : V w0 w (Bq s h E • F)) (hi : i < E.length) : gJ w .i32 (s.getD ((h + i) % 60) undef) (E.getD i []) := let ⟨I, k, hI⟩ := H.tX; (k i hi).rd hI
theorem xq {s : List Value} {h n m : Nat} {t : TypeId} {fr : Nat × Nat} {k : Nat} (hs : s.length = 60) (hh : h < 60) (hk : k < 60) (hb : w.heap[p]? = some (.cells (dN s h n m) t fr)) :
  iI prog 141 #[.pointer (some ⟨p, 0, none⟩), .int .i64 k] w fun v w' => v = s.getD ((h + k) % 60) undef ∧ zH w w' := by
 refine oN func141 ntmps141 ?_
 refine jR O (aO ?_)
 refine qG (n := 13) [0, 1, 2, 3, 4, 5, 6, 7, 8, 9, 10, 11, 12] (fun W => W.heap = w.heap) (by kernel_rfl) (by kernel_rfl) O ?_
 have hS0 : (fun W => W.heap = w.heap) (w.drew) := rfl
 refine iU 0 O hS0 O (iU 1 O hS0 O (jY 2 O hS0 O (iq 3 O hS0 61 cZ O ay O ?_)))
 refine jQ 4 O hS0 (fun W hW => kF aH O (by rw [hW]; exact hb) (AL hs)) ?_
 refine iU 5 O hS0 O (jB 6 O hS0 (fun _ => fO O O (by omega)) ?_)
 refine jB 7 O hS0 (fun _ => Ye O O (by omega) (by  omega)) ?_
 refine jY 8 O hS0 O (iq 9 O hS0 1 cZ O sizeOf205 O (jB 10 O hS0 (fun _ => zM underlying205 dh O O (by omega)) ?_))
 refine jQ 11 O hS0 (fun W hW => kF aj O (by rw [hW]; exact hb) (by rw [show (1 + (((h : Int) + (k : Int)) % 60).toNat * 1) = 1 + (h + k) % 60 from by omega]; exact NI hs (by omega))) ?_
 refine jB 12 O hS0 (fun _ => dR O) (ru (aW (nO (dK results141 O ?_))))
 exact ⟨O, ⟨1, O⟩⟩
theorem OJ (H : V w0 w (fA p E place • F)) : iI prog 86 #[.pointer (some ⟨p, 0, none⟩)] w fun v w' => v = .int .i64 E.length ∧ w = w' := by
  obtain ⟨s, h, hs, hh, hE, hp, hm, ho, H1⟩ := H.ring
  have hb := H1.get.2
  refine jr func86 ntmps86 ?_
  refine jR O (aO (bT O (dS O func140 (kQ _ hb Ag) ?_)))
  rintro _ _ ⟨rfl, rfl⟩
  refine iL (qH (gQ (bT O (dL O (bJ 62 cZ O ay O (fV aH O hb (oC hs) (fC O (dK results86 O ?_))))))))
  exact ⟨O, O⟩
theorem OL {s : List Value} {u : Value} {i : Nat} (h : ∀ v ∈ s, v.oneCell' = true) (hu : u.oneCell' = true) : ∀ v ∈ s.set i u, v.oneCell' = true := by
  intro v hv
  rcases List.mem_or_eq_of_mem_set hv with hv | rfl
  · exact h v hv
  · exact hu
theorem TK {I : Hp} {s : List Value} {h : Nat} {l : List Int} {v : Value} (hs : s.length = 60) (hh : h < 60) (hE : E.length ≤ 60) (hS : Qv I s h E) (hv : Ew I .i32 v l) :
    Qv I (s.set ((h + 59) % 60) v) ((h + 59) % 60) ((l :: E).take 60) := by
  intro i hi
  have aht : i < 60 ∧ i < E.length + 1 := by simp at hi; omega
  rw [List.getD_eq_getElem?_getD (l := (l :: E).take 60), List.getElem?_take, if_pos (by omega)]
  cases i with
  | zero =>
    have e : ((h + 59) % 60 + 0) % 60 = (h + 59) % 60 := by omega
    rw [e, List.getD_eq_getElem?_getD, List.getElem?_set_self (by omega)]
    exact hv
  | succ i =>
    have e : ((h + 59) % 60 + (i + 1)) % 60 = (h + i) % 60 := by omega
    have hne : ¬ (h + 59) % 60 = (h + i) % 60 := by omega
    rw [e, List.getD_eq_getElem?_getD, List.getElem?_set_ne hne, ← List.getD_eq_getElem?_getD]
    have := hS i (by omega)
    simpa [List.getD_eq_getElem?_getD] using this
theorem EI {v : Value} {l : List Int} (H : V w0 w (fA p E place • F)) (hr : jE w0 F .i32 v l) (hl : l.length ≤ 1024) :
    iI prog 211 #[.pointer (some ⟨p, 0, none⟩), v] w fun _ w' => V w0 w' (fA p ((l :: E).take 60) 0 • F) := by
  obtain ⟨s, h, hs, hh, hE, hp, hm, ho, H⟩ := H.ring
  have hh' : (h + 59) % 60 < 60 := by omega
  refine oN func211 ntmps211 ?_
  refine bT O (nK O O (bJ 61 cZ O ay O (fV aH O H.get.2 (AL hs) (Z (fO O O (by omega)) (Z (iZ O O (by omega)) ?_)))))
  refine Z (Ye O O (by omega) (by  omega)) ?_
  refine dL O (bJ 61 cZ O ay O (aI (jM H ay O O O (by rw [nM hs]; decide)) ?_))
  rintro _ w1 H1
  rw [show (((h : Int) + 60 - 1) % 60) = (((h + 59) % 60 : Nat) : Int) from by omega, Mc hs] at H1
  refine qR ?_
  refine qG (n := 11) [0, 1, 2, 3, 4, 5, 6, 7, 8, 9, 10] (fun W => W.heap[p]? = some (.cells (dN s ((h + 59) % 60) E.length place) 207 (0, 0))) (by kernel_rfl) (by kernel_rfl) O ?_
  have hS0 : (fun W => W.heap[p]? = some (.cells (dN s ((h + 59) % 60) E.length place) 207 (0, 0))) (w1.drew) := H1.get.2
  have H1d := H1.drew
  refine iU 0 O hS0 O (iU 1 O hS0 O (jY 2 O hS0 O (iq 3 O hS0 61 cZ O ay O (jQ 4 O hS0 (fun W hW => kF aH O hW (AL hs)) (iU 5 O hS0 O (jY 7 O hS0 O (iq 8 O hS0 1 cZ O sizeOf205 O (nD 6 O (xW O func71 (oz H1d hr.under.under (by omega))) ?_))))))))
  rintro u w2 H2
  have hS2 : (fun W => W.heap[p]? = some (.cells (dN s ((h + 59) % 60) E.length place) 207 (0, 0))) w2 := H2.swap.get.2
  refine F8 hS2 ?_
  refine jB 9 O hS2 (fun _ => zM underlying205 dh O O (by omega)) ?_
  refine gy 10 O (by kernel_rfl) (jM H2.swap dh O O H2.aQ.one (by rw [nM hs]; omega)) ?_
  rintro _ w3 H3
  rw [show (1 + ((((h + 59) % 60 : Nat) : Int)).toNat * 1) = 1 + (h + 59) % 60 from by omega, Ah hs hh'] at H3
  have hs' : (s.set ((h + 59) % 60) u).length = 60 := by simp [hs]
  have ho' := OL ho (u := u) (i := (h + 59) % 60) H2.aQ.one
  refine JO (by kernel_rfl) ?_
  refine ru (aW (bT O (nK O O (bJ 62 cZ O ay O (fV aH O H3.get.2 (oC hs') (Z (fO O O (by omega)) (Z (Cb O O) (dL O (bJ 62 cZ O ay O (aI (jM H3 ay O O O (by rw [nM hs']; decide)) ?_))))))))))
  rintro _ w4 H4
  rw [show min ((E.length : Int) + 1) 60 = ((min (E.length + 1) 60 : Nat) : Int) from by omega, Md hs'] at H4
  refine iL (aC (nK O O (bJ 63 cZ O ay O (aI (jM H4 ay O O O (by rw [nM hs']; decide)) ?_))))
  rintro _ w5 H5
  rw [show (Value.int .i64 0) = .int .i64 ((0 : Nat) : Int) from rfl, pI hs'] at H5
  refine bY (lK (.inr O) results211 ?_)
  have hlen : ((l :: E).take 60).length = min (E.length + 1) 60 := by simp; omega
  refine V.yD hs' hh' (by omega) (.inr O) ?_ ho' ?_
  · intro e he
    rcases List.mem_cons.1 (List.mem_of_mem_take he) with rfl | he
    · exact hl
    · exact hm e he
  · rw [hlen]
    exact (H5.swap.lM.LW.FV (rJ (fun I a b => TK hs hh hE a b) _)).swap
end
def Dp (E : List (List Int)) (place : Nat) (way : Int) (l : List Int) : Int × List (List Int) × Nat :=
  if way < 0 ∨ 2 < way then (1, E, place)
  else if 1024 < l.length then (3, E, place)
  else if way ≠ 0 ∧ 0 < E.length then
    if 1024 < l.length + (E.getD 0 []).length then (3, E, place)
    else (0, (if way = 1 then E.getD 0 [] ++ l else l ++ E.getD 0 []) :: E.tail, 0)
  else if way = 0 ∧ l.length = 0 then (0, E, place)
  else (0, (l :: E).take 60, 0)
theorem IX {I : Hp} {s : List Value} {h : Nat} {l : List Int} {v : Value} {E : List (List Int)} (hs : s.length = 60) (hh : h < 60) (hE : E.length ≤ 60) (h0 : 0 < E.length) (hS : Qv I s h E) (hv : Ew I .i32 v l) :
    Qv I (s.set h v) h (l :: E.tail) := by
  intro i hi
  have hi' : i < E.length := by simp at hi; omega
  cases i with
  | zero =>
    have e : (h + 0) % 60 = h := by omega
    rw [e, List.getD_eq_getElem?_getD, List.getElem?_set_self (by omega)]
    exact hv
  | succ i =>
    have hne : ¬ h = (h + (i + 1)) % 60 := by omega
    rw [List.getD_eq_getElem?_getD, List.getElem?_set_ne hne, ← List.getD_eq_getElem?_getD]
    have := hS (i + 1) hi'
    simpa [List.getD_eq_getElem?_getD] using this
section
variable {w0 w : World} {F : HP} {p place : Nat} {E : List (List Int)} {v : Value} {l : List Int} {way : Int}
theorem wW (h0 : 0 < E.length) (x : List Int) : (x :: E.tail).length = E.length := by simp; omega
theorem Me (H : V w0 w (fA p E place • F)) (hr : jE w0 F .i32 v l) (hw : way < 0 ∨ 2 < way) :
    iI prog 199 #[.pointer (some ⟨p, 0, none⟩), .int .i64 way, v] w fun v' w' => v' = .int .i64 1 ∧ V w0 w' (fA p E place • F) := by
  obtain ⟨s, h, hs, hh, hE, hp, hm, ho, H1⟩ := H.ring
  have hb := H1.get.2
  refine AB func199 ntmps199 ?_
  refine jR O (aO (bT O (dS O func140 (kQ _ hb Ag) ?_)))
  rintro _ _ ⟨rfl, rfl⟩
  refine iL (qH (gQ (aO (bT O (Z (gB O O) (jJ O (fun h1 => ?_) (fun h1 => ?_)))))))
  · (try simp only [aA] at h1)
    refine bF (bF (jh O O (iL (C9 (jP O (aB (dK nH O ?_)))))))
    exact ⟨O, H⟩
  · (try simp only [aA] at h1)
    refine bg (bP O (bg (Z (dY O O) (ig O O (iL (wcA O (fun h2 => ?_)))))))
    (try simp only [aA] at h2)
    refine jP O (aB (dK nH O ?_))
    exact ⟨O, H⟩
theorem J6 (H : V w0 w (fA p E place • F)) (hr : jE w0 F .i32 v l) (hw : 0 ≤ way ∧ way ≤ 2) (hl : 1024 < l.length) :
    iI prog 199 #[.pointer (some ⟨p, 0, none⟩), .int .i64 way, v] w fun v' w' => v' = .int .i64 3 ∧ V w0 w' (fA p E place • F) := by
  obtain ⟨s, h, hs, hh, hE, hp, hm, ho, H1⟩ := H.ring
  have hb := H1.get.2
  obtain ⟨a, c, rfl, _, _, _⟩ := (hr w H.right).open
  refine AB func199 ntmps199 ?_
  refine jR O (aO (bT O (dS O func140 (kQ _ hb Ag) ?_)))
  rintro _ _ ⟨rfl, rfl⟩
  refine iL (qH (gQ (aO (bT O (Z (gB O O) (X5 O (fun h1 => ?_)))))))
  (try simp only [aA] at h1)
  refine bg (bP O (bg (Z (dY O O) (ig O O (iL (TB O (fun h2 => ?_)))))))
  (try simp only [aA] at h2)
  refine gQ (bT O (Z (iM O O) (jJ O (fun h3 => ?_) (fun h3 => ?_))))
  · (try simp only [aA] at h3)
    refine bg (bP O (bg (dL O (bg (bJ 62 cZ O ay O (bg (fV aH O hb (oC hs) (bg (Z (dY O O) (jh O O (vY O (aY (bT O (Z (jc aj O) (Z (dY O O) (xsA O (fun h4 => ?_)))))))))))))))))
    (try simp only [aA] at h4)
    refine bF (bF (mY (mY (mY (mY (mY (mY (mY (bF (jh O O (fP O (C9 (jP O (aT (aB (dK nH O ?_))))))))))))))))
    exact ⟨O, H⟩
  · (try simp only [aA] at h3)
    refine bF (bF (bF (bF (bF (ig O O (vY O (aY (bT O (Z (jc aj O) (Z (dY O O) (xsA O (fun h5 => ?_))))))))))))
    (try simp only [aA] at h5)
    refine bF (bF (mY (mY (mY (mY (mY (mY (mY (bF (jh O O (fP O (C9 (jP O (aT (aB (dK nH O ?_))))))))))))))))
    exact ⟨O, H⟩
theorem Gj (H : V w0 w (fA p E place • F)) (hr : jE w0 F .i32 v l) (hl : l.length = 0) :
    iI prog 199 #[.pointer (some ⟨p, 0, none⟩), .int .i64 0, v] w fun v' w' => v' = .int .i64 0 ∧ V w0 w' (fA p E place • F) := by
  obtain ⟨s, h, hs, hh, hE, hp, hm, ho, H1⟩ := H.ring
  have hb := H1.get.2
  obtain ⟨a, c, rfl, _, _, _⟩ := (hr w H.right).open
  refine AB func199 ntmps199 ?_
  refine jR O (aO (bT O (dS O func140 (kQ _ hb Ag) ?_)))
  rintro _ _ ⟨rfl, rfl⟩
  refine iL (qH (gQ (aO (bT O (Z (gB O O) (X5 O (fun h1 => ?_)))))))
  (try simp only [aA] at h1)
  refine bg (bP O (bg (Z (dY O O) (ig O O (iL (TB O (fun h2 => ?_)))))))
  (try simp only [aA] at h2)
  refine gQ (bT O (Z (iM O O) (X5 O (fun h3 => ?_))))
  (try simp only [aA] at h3)
  refine bF (bF (bF (bF (bF (ig O O (vY O (aY (bT O (Z (jc aj O) (Z (dY O O) (X5 O (fun h4 => ?_))))))))))))
  (try simp only [aA] at h4)
  refine bg (bP O (bg (bP O (bF (bF (bF (bF (bF (bF (bF (bg (ig O O (ig O O (fP O (qH (bT O (Z (dX O O) (xsA O (fun h5 => ?_)))))))))))))))))))
  (try simp only [aA] at h5)
  refine bg (bP O (bg (Z (jc aj O) (bg (Z (dX O O) (jh O O (fP O (wcA O (fun h6 => ?_)))))))))
  (try simp only [aA] at h6)
  refine jP O (aT (aB (dK nH O ?_)))
  exact ⟨O, H⟩
theorem MB (H : V w0 w (fA p E place • F)) (hr : jE w0 F .i32 v l) (hw : 0 ≤ way ∧ way ≤ 2) (hl : l.length ≤ 1024) (hj : way = 0 ∨ E.length = 0) (hn : ¬ (way = 0 ∧ l.length = 0)) :
  iI prog 199 #[.pointer (some ⟨p, 0, none⟩), .int .i64 way, v] w fun v' w' => v' = .int .i64 0 ∧ V w0 w' (fA p ((l :: E).take 60) 0 • F) := by
 obtain ⟨s, h, hs, hh, hE, hp, hm, ho, H1⟩ := H.ring
 have hb := H1.get.2
 obtain ⟨a, c, hv, _, _, _⟩ := (hr w H.right).open
 subst hv
 refine AB func199 ntmps199 ?_
 refine jR O (aO (bT O (dS O func140 (kQ _ hb Ag) ?_)))
 rintro _ _ ⟨rfl, rfl⟩
 refine iL (qH (gQ (aO (bT O (Z (gB O O) (X5 O (fun h1 => ?_)))))))
 (try simp only [aA] at h1)
 refine bg (bP O (bg (Z (dY O O) (ig O O (iL (TB O (fun h2 => ?_)))))))
 (try simp only [aA] at h2)
 refine gQ (bT O (Z (iM O O) (jJ O (fun h3 => ?_) (fun h3 => ?_))))
 ·(try simp only [aA] at h3)
  refine bg (bP O (bg (dL O (bg (bJ 62 cZ O ay O (bg (fV aH O hb (oC hs) (bg ?_))))))))
  refine Z (Ny (dY O O) (by first | (rw [decide_eq_true_eq]; omega) | (rw [decide_eq_false_iff_not]; omega) | (rw [beq_iff_eq]; omega) | (rw [beq_eq_false_iff_ne]; omega) | (rw [bne_iff_ne]; omega) | (rw [bne_eq_false_iff_eq]; omega) | (simp; done) | (simp; omega))) ?_
  refine jh O O (vY O (aY (bT O (Z (jc aj O) (Z (dY O O) (X5 O (fun h4 => ?_)))))))
  (try simp only [aA] at h4)
  refine bg (bP O (bg (bP O (bF (bF (bF (bF (bF (bF (bF (bg (ig O O (ig O O (fP O (qH (bT O (Z (dX O O) (jJ O (fun h5 => ?_) (fun h5 => ?_)))))))))))))))))))
  ·(try simp only [aA] at h5)
   exfalso; first | contradiction | omega
  ·(try simp only [aA] at h5)
   refine bF (bF (bF (ig O O (fP O (qH (bT O (Z (lC O) (fP O (bH O (fun h9 => ?_) (fun h9 => ?_))))))))))
   ·(try simp only [aA] at h9)
    refine aC (jO O O (dS O func211 (EI H hr hl) ?_))
    rintro _ P6 H7
    obtain ⟨s2, h2, hs2, hh2, hE2, hp2, hm2, ho2, H2⟩ := H7.ring
    refine bY (aK (aW (bT O (dL O (bJ 63 cZ O ay O (aI (jM H2 ay O O O (by rw [nM hs2]; decide)) ?_))))))
    rintro _ Qu H8
    rw [show (Value.int .i64 0) = .int .i64 ((0 : Nat) : Int) from rfl, pI hs2] at H8
    refine iL (jP O (dK nH O ?_))
    exact ⟨O, V.yD hs2 hh2 hE2 hp2 hm2 ho2 H8⟩
   ·(try simp only [aA] at h9)
    exfalso; first | contradiction | omega
 ·(try simp only [aA] at h3)
  refine bF (bF (bF (bF (bF (ig O O (vY O (aY (bT O (Z (jc aj O) (Z (dY O O) (X5 O (fun h11 => ?_))))))))))))
  (try simp only [aA] at h11)
  refine bg (bP O (bg (bP O (bF (bF (bF (bF (bF (bF (bF (bg (ig O O (ig O O (fP O (qH (bT O (Z (dX O O) (jJ O (fun h12 => ?_) (fun h12 => ?_)))))))))))))))))))
  ·(try simp only [aA] at h12)
   refine bg (bP O (bg (Z (jc aj O) (bg (Z (dX O O) (jh O O (fP O (TB O (fun h13 => ?_)))))))))
   (try simp only [aA] at h13)
   refine bT O (Z (lC O) (fP O (bH O (fun h14 => ?_) (fun h14 => ?_))))
   ·(try simp only [aA] at h14)
    refine aC (jO O O (dS O func211 (EI H hr hl) ?_))
    rintro _ w26 H7
    obtain ⟨s2, h2, hs2, hh2, hE2, hp2, hm2, ho2, H2⟩ := H7.ring
    refine bY (aK (aW (bT O (dL O (bJ 63 cZ O ay O (aI (jM H2 ay O O O (by rw [nM hs2]; decide)) ?_))))))
    rintro _ w27 H8
    rw [show (Value.int .i64 0) = .int .i64 ((0 : Nat) : Int) from rfl, pI hs2] at H8
    refine iL (jP O (dK nH O ?_))
    exact ⟨O, V.yD hs2 hh2 hE2 hp2 hm2 ho2 H8⟩
   ·(try simp only [aA] at h14)
    exfalso; first | contradiction | omega
  ·(try simp only [aA] at h12)
   exfalso; first | contradiction | omega
theorem MC (H : V w0 w (fA p E place • F)) (hr : jE w0 F .i32 v l) (hw : 0 < way ∧ way ≤ 2) (hl : l.length ≤ 1024) (hE0 : 0 < E.length) (hj : 1024 < l.length + (E.getD 0 []).length) :
    iI prog 199 #[.pointer (some ⟨p, 0, none⟩), .int .i64 way, v] w fun v' w' => v' = .int .i64 3 ∧ V w0 w' (fA p E place • F) := by
  obtain ⟨s, h, hs, hh, hE, hp, hm, ho, H1⟩ := H.ring
  have hb := H1.get.2
  obtain ⟨a, c, hv, _, _, _⟩ := (hr w H.right).open
  subst hv
  have hm0 : (E.getD 0 []).length ≤ 1024 := hm _ (by rw [List.getD_eq_getElem?_getD, List.getElem?_eq_getElem hE0]; simp)
  refine AB func199 ntmps199 ?_
  refine jR O (aO (bT O (dS O func140 (kQ _ hb Ag) ?_)))
  rintro _ _ ⟨rfl, rfl⟩
  refine iL (qH (gQ (aO (bT O (Z (gB O O) (X5 O (fun h1 => ?_)))))))
  (try simp only [aA] at h1)
  refine bg (bP O (bg (Z (dY O O) (ig O O (iL (TB O (fun h2 => ?_)))))))
  (try simp only [aA] at h2)
  refine gQ (bT O (Z (iM O O) (xsA O (fun h3 => ?_))))
  (try simp only [aA] at h3)
  refine bg (bP O (bg (dL O (bg (bJ 62 cZ O ay O (bg (fV aH O hb (oC hs) (bg ?_))))))))
  refine Z (D7 (dY O O) (by first | (rw [decide_eq_true_eq]; omega) | (rw [decide_eq_false_iff_not]; omega) | (rw [beq_iff_eq]; omega) | (rw [beq_eq_false_iff_ne]; omega) | (rw [bne_iff_ne]; omega) | (rw [bne_eq_false_iff_eq]; omega) | (simp; done) | (simp; omega))) ?_
  refine jh O O (vY O (aY (bT O (Z (jc aj O) (Z (dY O O) (X5 O (fun h4 => ?_)))))))
  (try simp only [aA] at h4)
  refine bg (bP O (bg (bP O (bg (bP O (bg (Z (jc aj O) (bg (bP O (bg (dS O func141 (xq (k := 0) hs hh (by omega) hb) ?_)))))))))))
  rintro _ w2 ⟨rfl, hD⟩
  obtain ⟨a0, c0, e0, _, _, _⟩ := ((H1.xg hD).right.Dn (i := 0) hE0).open
  rw [e0]
  refine bg (Z (jc aj O) (bg (Z (iZ O O (by omega)) (bg ?_))))
  refine Z (D7 (dY O O) (by first | (rw [decide_eq_true_eq]; omega) | (rw [decide_eq_false_iff_not]; omega) | (rw [beq_iff_eq]; omega) | (rw [beq_eq_false_iff_ne]; omega) | (rw [bne_iff_ne]; omega) | (rw [bne_eq_false_iff_eq]; omega) | (simp; done) | (simp; omega))) ?_
  refine bg (jh O O (ig O O (fP O (C9 (jP O (aT (aB (dK nH O ?_))))))))
  exact ⟨O, H.xg hD⟩
theorem J7 (H : V w0 w (fA p E place • F)) (hr : jE w0 F .i32 v l) (hw : 0 < way ∧ way ≤ 2) (hE0 : 0 < E.length) (hj : l.length + (E.getD 0 []).length ≤ 1024) :
    iI prog 199 #[.pointer (some ⟨p, 0, none⟩), .int .i64 way, v] w fun v' w' => v' = .int .i64 0 ∧ V w0 w' (fA p ((if way = 1 then E.getD 0 [] ++ l else l ++ E.getD 0 []) :: E.tail) 0 • F) := by
  obtain ⟨s, h, hs, hh, hE, hp, hm, ho, H⟩ := H.ring
  have hb := H.get.2
  obtain ⟨a, c, hv, _, _, _⟩ := (hr w H.right.right).open
  subst hv
  have hm0 : (E.getD 0 []).length ≤ 1024 := hm _ (by rw [List.getD_eq_getElem?_getD, List.getElem?_eq_getElem hE0]; simp)
  have ag0 := NI (h := h) (n := E.length) (p := place) hs (i := (h + 0) % 60) (by omega)
  refine AB func199 ntmps199 ?_
  refine jR O (aO (bT O (dS O func140 (kQ _ hb Ag) ?_)))
  rintro _ _ ⟨rfl, rfl⟩
  refine iL (qH (gQ (aO (bT O (Z (gB O O) (X5 O (fun h1 => ?_)))))))
  (try simp only [aA] at h1)
  refine bg (bP O (bg (Z (dY O O) (ig O O (iL (TB O (fun h2 => ?_)))))))
  (try simp only [aA] at h2)
  refine gQ (bT O (Z (iM O O) (xsA O (fun h3 => ?_))))
  (try simp only [aA] at h3)
  refine bg (bP O (bg (dL O (bg (bJ 62 cZ O ay O (bg (fV aH O hb (oC hs) (bg ?_))))))))
  refine Z (D7 (dY O O) (by first | (rw [decide_eq_true_eq]; omega) | (rw [decide_eq_false_iff_not]; omega) | (rw [beq_iff_eq]; omega) | (rw [beq_eq_false_iff_ne]; omega) | (rw [bne_iff_ne]; omega) | (rw [bne_eq_false_iff_eq]; omega) | (simp; done) | (simp; omega))) ?_
  refine jh O O (vY O (aY (bT O (Z (jc aj O) (Z (dY O O) (X5 O (fun h4 => ?_)))))))
  (try simp only [aA] at h4)
  refine bg (bP O (bg (bP O (bg (bP O (bg (Z (jc aj O) (bg (bP O (bg (dS O func141 (xq (k := 0) hs hh (by omega) hb) ?_)))))))))))
  rintro _ w2 ⟨rfl, hD⟩
  obtain ⟨a0, c0, e0, _, _, _⟩ := ((H.xg hD).right.Dn (i := 0) hE0).open
  rw [e0]
  have pW := H.xg hD
  refine bg (Z (jc aj O) (bg (Z (iZ O O (by omega)) (bg ?_))))
  refine Z (Ny (dY O O) (by first | (rw [decide_eq_true_eq]; omega) | (rw [decide_eq_false_iff_not]; omega) | (rw [beq_iff_eq]; omega) | (rw [beq_eq_false_iff_ne]; omega) | (rw [bne_iff_ne]; omega) | (rw [bne_eq_false_iff_eq]; omega) | (simp; done) | (simp; omega))) ?_
  refine bg (jh O O (ig O O (fP O (qH (bT O (Z (dX O O) (X5 O (fun h5 => ?_))))))))
  (try simp only [aA] at h5)
  refine bF (bF (bF (ig O O (fP O (qH (bT O (Z (lC O) (fP O (TB O (fun h6 => ?_))))))))))
  (try simp only [aA] at h6)
  refine bT O (Z (dX O O) (fP O (bH O (fun h7 => ?_) (fun h7 => ?_))))
  · (try simp only [aA] at h7)
    have hw1 : way = 1 := by omega
    refine qG (n := 14) [0, 1, 2, 3, 4, 5, 6, 7, 8, 9, 10, 11, 12, 13] (fun W => W.heap[p]? = some (.cells (dN s h E.length place) 207 (0, 0))) (by kernel_rfl) (by kernel_rfl) O ?_
    have hS0 : (fun W => W.heap[p]? = some (.cells (dN s h E.length place) 207 (0, 0))) (w2.drew) := pW.get.2
    have Qw := pW.drew
    refine iU 0 O hS0 O (iU 1 O hS0 O (jY 2 O hS0 O (iq 3 O hS0 61 cZ O ay O (jQ 4 O hS0 (fun W hW => kF aH O hW (AL hs)) (iU 5 O hS0 O (iU 7 O hS0 O (jY 10 O hS0 O (iq 11 O hS0 1 cZ O sizeOf205 O (nD 6 O (xW O func141 (xq (k := 0) hs hh (by omega) Qw.get.2)) ?_)))))))))
    rintro _ w3 ⟨rfl, hD2⟩
    have Di := Qw.xg hD2
    have hS3 : (fun W => W.heap[p]? = some (.cells (dN s h E.length place) 207 (0, 0))) w3 := Di.get.2
    refine F8 hS3 ?_
    refine nD 8 O (Vf (vs := [s.getD ((h + 0) % 60) undef, .slice a l.length c]) Di iC dh zeroValue22 O O O (by decide) (by rw [e0]; simp [Value.oneCell'])) ?_
    rintro _ w4 ⟨b2, rfl, H4⟩
    have hS4 : (fun W => W.heap[p]? = some (.cells (dN s h E.length place) 207 (0, 0))) w4 := H4.swap.get.2
    refine F8 hS4 ?_
    refine nD 9 O (xW O func172 (Dk H4 (fun W HW => HW.right.right.Dn (i := 0) hE0) hr.under.under.under (by omega))) ?_
    rintro u w5 H5
    have vN := H5.LW
    have hS5 : (fun W => W.heap[p]? = some (.cells (dN s h E.length place) 207 (0, 0))) w5 := vN.get.2
    refine F8 hS5 ?_
    refine jB 12 O hS5 (fun _ => zM underlying205 dh O O (by omega)) ?_
    refine gy 13 O (by kernel_rfl) (jM vN dh O O H5.aQ.one (by rw [nM hs]; omega)) ?_
    rintro _ w6 Gg
    rw [show (1 + ((h : Int)).toNat * 1) = 1 + h from by omega, Ah hs hh] at Gg
    have hs' : (s.set h u).length = 60 := by simp [hs]
    have ho' := OL ho (u := u) (i := h) H5.aQ.one
    refine JO (by kernel_rfl) ?_
    refine ru (aK (aW (bT O (dL O (bJ 63 cZ O ay O (aI (jM Gg ay O O O (by rw [nM hs']; decide)) ?_))))))
    rintro _ w7 Ce
    rw [show (Value.int .i64 0) = .int .i64 ((0 : Nat) : Int) from rfl, pI hs'] at Ce
    have JY := Ce.swap.lM
    refine iL (jP O (dK nH O ?_))
    refine ⟨O, V.yD hs' hh (by rw [wW hE0]; omega) (.inr O) ?_ ho' ?_⟩
    · intro e he
      rcases List.mem_cons.1 he with rfl | he
      · first | (rw [if_pos hw1, List.length_append]; omega) | (rw [if_neg (by omega), List.length_append]; omega)
      · exact hm e (List.mem_of_mem_tail he)
    · rw [wW hE0]
      first | rw [if_pos hw1] | rw [if_neg (by omega)]
      exact (JY.r4.swap.FV (rJ (fun I a b => IX hs hh hE hE0 b a) _)).LW.right.swap
  · (try simp only [aA] at h7)
    have hw2 : way = 2 := by omega
    refine qG (n := 14) [0, 1, 2, 3, 4, 5, 6, 7, 8, 9, 10, 11, 12, 13] (fun W => W.heap[p]? = some (.cells (dN s h E.length place) 207 (0, 0))) (by kernel_rfl) (by kernel_rfl) O ?_
    have hS0 : (fun W => W.heap[p]? = some (.cells (dN s h E.length place) 207 (0, 0))) (w2.drew) := pW.get.2
    have H6d := pW.drew
    refine iU 0 O hS0 O (iU 1 O hS0 O (jY 2 O hS0 O (iq 3 O hS0 61 cZ O ay O (jQ 4 O hS0 (fun W hW => kF aH O hW (AL hs)) (iU 5 O hS0 O (iU 6 O hS0 O (jY 10 O hS0 O (iq 11 O hS0 1 cZ O sizeOf205 O (nD 7 O (xW O func141 (xq (k := 0) hs hh (by omega) H6d.get.2)) ?_)))))))))
    rintro _ w8 ⟨rfl, hD2⟩
    have Di := H6d.xg hD2
    have hS8 : (fun W => W.heap[p]? = some (.cells (dN s h E.length place) 207 (0, 0))) w8 := Di.get.2
    refine F8 hS8 ?_
    refine nD 8 O (Vf (vs := [.slice a l.length c, s.getD ((h + 0) % 60) undef]) Di iC dh zeroValue22 O O O (by decide) (by rw [e0]; simp [Value.oneCell'])) ?_
    rintro _ w9 ⟨b2, rfl, H9⟩
    have hS9 : (fun W => W.heap[p]? = some (.cells (dN s h E.length place) 207 (0, 0))) w9 := H9.swap.get.2
    refine F8 hS9 ?_
    refine nD 9 O (xW O func172 (Dk H9 hr.under.under.under (fun W HW => HW.right.right.Dn (i := 0) hE0) (by omega))) ?_
    rintro u w10 pW
    have vN := pW.LW
    have ad7 : (fun W => W.heap[p]? = some (.cells (dN s h E.length place) 207 (0, 0))) w10 := vN.get.2
    refine F8 ad7 ?_
    refine jB 12 O ad7 (fun _ => zM underlying205 dh O O (by omega)) ?_
    refine gy 13 O (by kernel_rfl) (jM vN dh O O pW.aQ.one (by rw [nM hs]; omega)) ?_
    rintro _ FX Gg
    rw [show (1 + ((h : Int)).toNat * 1) = 1 + h from by omega, Ah hs hh] at Gg
    have hs' : (s.set h u).length = 60 := by simp [hs]
    have ho' := OL ho (u := u) (i := h) pW.aQ.one
    refine JO (by kernel_rfl) ?_
    refine ru (aK (aW (bT O (dL O (bJ 63 cZ O ay O (aI (jM Gg ay O O O (by rw [nM hs']; decide)) ?_))))))
    rintro _ w12 Ce
    rw [show (Value.int .i64 0) = .int .i64 ((0 : Nat) : Int) from rfl, pI hs'] at Ce
    have JY := Ce.swap.lM
    refine iL (jP O (dK nH O ?_))
    refine ⟨O, V.yD hs' hh (by rw [wW hE0]; omega) (.inr O) ?_ ho' ?_⟩
    · intro e he
      rcases List.mem_cons.1 he with rfl | he
      · first | (rw [if_pos hw1, List.length_append]; omega) | (rw [if_neg (by omega), List.length_append]; omega)
      · exact hm e (List.mem_of_mem_tail he)
    · rw [wW hE0]
      first | rw [if_pos hw1] | rw [if_neg (by omega)]
      exact (JY.r4.swap.FV (rJ (fun I a b => IX hs hh hE hE0 b a) _)).LW.right.swap
end
def Hz (m place : Nat) (n : Int) : Nat := (((place : Int) + n) % (m : Int)).toNat
theorem aaM {m place : Nat} {n : Int} (h : 0 < m) : Hz m place n < m := by
  unfold Hz
  have h1 := Int.emod_nonneg ((place : Int) + n) (show (m : Int) ≠ 0 by omega)
  have h2 := Int.emod_lt_of_pos ((place : Int) + n) (show (0 : Int) < m by omega)
  omega
theorem OM (a : Int) {m : Int} (h : 0 < m) : -m < a.tmod m ∧ a.tmod m < m := by
  have h2 := Int.tmod_lt_of_pos a h
  have h3 := Int.tmod_lt_of_pos (-a) h
  rw [Int.neg_tmod] at h3
  omega
theorem NJ (a m : Int) : a.tmod m % m = a % m := by
  rw [Int.tmod_def]
  exact Int.sub_mul_emod_self_left a m (a.tdiv m)
theorem acx (m place : Nat) (n : Int) (h : 0 < m) : (((place : Int) + n.tmod m).tmod m + m).tmod m = (Hz m place n : Int) := by
  have h1 := OM ((place : Int) + n.tmod m) (show (0 : Int) < m by omega)
  have h2 := Int.emod_nonneg ((place : Int) + n) (show (m : Int) ≠ 0 by omega)
  unfold Hz
  rw [Int.toNat_of_nonneg h2, Int.tmod_eq_emod_of_nonneg (by omega), Int.add_emod_right, NJ, Int.add_emod, NJ, ← Int.add_emod]
section
variable {w0 w : World} {F : HP} {p place : Nat} {E : List (List Int)} {v : Value} {l : List Int} {way : Int}
theorem MF (H : V w0 w (fA p E place • F)) (hr : jE w0 F .i32 v l) :
    iI prog 199 #[.pointer (some ⟨p, 0, none⟩), .int .i64 way, v] w fun v' w' => v' = .int .i64 (Dp E place way l).1 ∧ V w0 w' (fA p (Dp E place way l).2.1 (Dp E place way l).2.2 • F) := by
  unfold Dp
  by_cases h1 : way < 0 ∨ 2 < way
  · simp only [h1, if_true]; exact Me H hr h1
  · simp only [h1, if_false]
    by_cases h2 : 1024 < l.length
    · simp only [h2, if_true]; exact J6 H hr (by omega) h2
    · simp only [h2, if_false]
      by_cases h3 : way ≠ 0 ∧ 0 < E.length
      · rw [if_pos h3]
        by_cases h4 : 1024 < l.length + (E.getD 0 []).length
        · rw [if_pos h4]; exact MC H hr (by omega) (by omega) h3.2 h4
        · rw [if_neg h4]; exact J7 H hr (by omega) h3.2 (by omega)
      · rw [if_neg h3]
        by_cases h5 : way = 0 ∧ l.length = 0
        · rw [if_pos h5]; obtain ⟨rfl, h6⟩ := h5; exact Gj H hr h6
        · rw [if_neg h5]; exact MB H hr (by omega) (by omega) (by omega) h5
theorem HY {n : Int} (H : V w0 w (fA p [] place • F)) :
    iI prog 87 #[.pointer (some ⟨p, 0, none⟩), .int .i64 n] w fun v' w' => v' = .tuple #[.slice none 0 0, .int .i64 6] ∧ V w0 w' (fA p [] place • F) := by
  obtain ⟨s, h, hs, hh, hE, hp, hm, ho, H1⟩ := H.ring
  have hb := H1.get.2
  refine oN func87 ntmps87 ?_
  refine iV (iJ O (vY O (aY (bT O (dS O func140 (kQ _ hb Ag) ?_)))))
  rintro _ _ ⟨rfl, rfl⟩
  refine fP O (qH (bT O (dL O (bJ 62 cZ O ay O (fV aH O hb (oC hs) (Z (dX O O) (fP O (wcA O (fun h1 => ?_)))))))))
  (try simp only [aA] at h1)
  refine iV (iJ O (fC O (aT (aB (P5 results87 O O ?_)))))
  exact ⟨O, H⟩
theorem Jl {n : Int} (H : V w0 w (fA p E place • F)) (h0 : 0 < E.length) :
  iI prog 87 #[.pointer (some ⟨p, 0, none⟩), .int .i64 n] w fun v' w' => ∃ u, v' = .tuple #[u, .int .i64 0] ∧
   V w0 w' (jW 21 .i32 u (E.getD (Hz E.length place n) []) • fA p E (Hz E.length place n) • F) := by
 obtain ⟨s, h, hs, hh, hE, hp, hm, ho, H⟩ := H.ring
 have hb := H.get.2
 have hlt := aaM (place := place) (n := n) h0
 have afv := acx E.length place n h0
 have hb1 := OM n (show (0 : Int) < E.length by omega)
 have hb2 := OM ((place : Int) + n.tmod E.length) (show (0 : Int) < E.length by omega)
 refine oN func87 ntmps87 ?_
 refine iV (iJ O (vY O (aY (bT O (dS O func140 (kQ _ hb Ag) ?_)))))
 rintro _ _ ⟨rfl, rfl⟩
 refine fP O (qH (bT O (dL O (bJ 62 cZ O ay O (fV aH O hb (oC hs) (Z (dX O O) (fP O (TB O (fun h1 => ?_)))))))))
 (try simp only [aA] at h1)
 refine dn (aK (aW (aO ?_)))
 refine qG (n := 30) [0, 1, 2, 3, 4, 5, 6, 7, 8, 9, 10, 11, 12, 13, 14, 15, 16, 17, 18, 19, 20, 21, 22, 23, 24, 25, 26, 27, 28, 29] (fun W => W.heap = w.heap) (by kernel_rfl) (by kernel_rfl) O ?_
 have hS0 : (fun W => W.heap = w.heap) (w.drew) := rfl
 have H5d := H.drew
 refine iU 0 O hS0 O (iU 1 O hS0 O (jY 2 O hS0 O (iq 3 O hS0 63 cZ O ay O ?_)))
 refine jQ 4 O hS0 (fun W hW => kF aH O (by rw [hW]; exact hb) (J5 hs)) ?_
 refine iU 5 O hS0 O (iU 6 O hS0 O (jY 7 O hS0 O (iq 8 O hS0 62 cZ O ay O ?_)))
 refine jQ 9 O hS0 (fun W hW => kF aH O (by rw [hW]; exact hb) (oC hs)) ?_
 refine jB 10 O hS0 (fun _ => Td O O (by omega)) (jB 11 O hS0 (fun _ => fO O O (by omega)) (iU 12 O hS0 O (jY 13 O hS0 O (iq 14 O hS0 62 cZ O ay O ?_))))
 refine jQ 15 O hS0 (fun W hW => kF aH O (by rw [hW]; exact hb) (oC hs)) ?_
 refine jB 16 O hS0 (fun _ => Td O O (by omega)) (iU 17 O hS0 O (jY 18 O hS0 O (iq 19 O hS0 62 cZ O ay O ?_)))
 refine jQ 20 O hS0 (fun W hW => kF aH O (by rw [hW]; exact hb) (oC hs)) ?_
 refine jB 21 O hS0 (fun _ => fO O O (by omega)) (iU 22 O hS0 O (jY 23 O hS0 O (iq 24 O hS0 62 cZ O ay O ?_)))
 refine jQ 25 O hS0 (fun W hW => kF aH O (by rw [hW]; exact hb) (oC hs)) ?_
 refine jB 26 O hS0 (fun _ => Td O O (by omega)) (jY 27 O hS0 O (iq 28 O hS0 63 cZ O ay O ?_))
 refine gy 29 O (by kernel_rfl) (jM H5d ay O O O (by rw [nM hs]; decide)) ?_
 rintro _ w2 H2
 rw [afv, pI hs] at H2
 refine JO (by kernel_rfl) ?_
 refine ru (aW (bT O (nK O O (bJ 63 cZ O ay O (fV aH O H2.get.2 (J5 hs) (dS O func141 (xq hs hh (by omega) H2.get.2) ?_))))))
 rintro _ w3 ⟨rfl, hD2⟩
 have H3 := H2.xg hD2
 refine Tc (qQ (rE O func71 O O) (oz H3 (fun W HW => HW.right.Dn (i := Hz E.length place n) hlt) (by have := hm (E.getD (Hz E.length place n) []) (by rw [List.getD_eq_getElem?_getD, List.getElem?_eq_getElem hlt]; simp); omega))) (kY O) ?_
 rintro u w4 H4
 refine iJ O (fC O (P5 results87 O O ?_))
 exact ⟨u, O, (V.yD hs hh hE (.inl hlt) hm ho H4.d3).swap⟩
theorem V.WM {s : List Value} {h : Nat} (H : V w0 w (Bq s h E • F)) : V w0 w (Bq s h E • Bq s h E • F) := H.vw
theorem WO {s : List Value} {h n p : Nat} (ho : ∀ v ∈ s, v.oneCell' = true) : ∀ v ∈ (dN s h n p).toList, v.oneCell' = true := by
  intro v hv
  simp [dN] at hv
  rcases hv with rfl | hv | rfl | rfl | rfl <;> first | rfl | exact ho v hv
theorem Dq (H : V w0 w (fA p E place • F)) :
    iI prog 85 #[.pointer (some ⟨p, 0, none⟩)] w fun v' w' => ∃ q, v' = .pointer (some ⟨q, 0, none⟩) ∧ V w0 w' (fA q E place • fA p E place • F) := by
  obtain ⟨s, h, hs, hh, hE, hp, hm, ho, H⟩ := H.ring
  have hb := H.get.2
  refine jr func85 ntmps85 ?_
  refine jR O (aO (bT O (dS O func140 (kQ _ hb Ag) ?_)))
  rintro _ _ ⟨rfl, rfl⟩
  refine iL (qH (gQ (bT O (dL O (Z (dM cZ O sizeOf207 (nM hs) O hb) (jV (zN H zeroValue207) ?_))))))
  rintro _ w2 ⟨b2, rfl, H2⟩
  refine aI (gK H2 sizeOf207 (nM hs) O O O (WO ho)) ?_
  rintro _ w3 H3
  refine iL (jP O (dK results85 O ?_))
  exact ⟨_, O, V.yD hs hh hE hp hm ho (V.yD hs hh hE hp hm ho (H3.LW.WM.r4)).swap.LW⟩
end
section
variable {w0 w : World} {F : HP} {p place : Nat} {E : List (List Int)}
theorem TL (H : V w0 w (fA p E place • F)) : E.length ≤ 60 ∧ (place < E.length ∨ place = 0) ∧ ∀ e ∈ E, e.length ≤ 1024 := by
  obtain ⟨s, h, hs, hh, hE, hpl, hE2, hs1, H1⟩ := H.ring
  exact ⟨hE, hpl, hE2⟩
theorem Jm {n : Int} (H : V w0 w (fA p E place • F)) : iI prog 87 #[.pointer (some ⟨p, 0, none⟩), .int .i64 n] w fun v w' => ∃ u, v = .tuple #[u, .int .i64 (if E.length = 0 then 6 else 0)] ∧
    V w0 w' (jW 21 .i32 u (if E.length = 0 then [] else E.getD (Hz E.length place n) []) • fA p E (if E.length = 0 then place else Hz E.length place n) • F) := by
  by_cases h0 : E.length = 0
  · obtain rfl := List.eq_nil_of_length_eq_zero h0
    simp only [List.length_nil, if_true]
    exact (HY H).mono fun v w' h => ⟨_, h.1, h.2.jw none⟩
  · simp only [if_neg h0]
    exact (Jl H (by omega)).mono fun v w' h => h
end
end Go.Proofs.YtpdeedplgmbopaaGreatDoor
end
section
namespace Go.Proofs.YtpdeedplgmbopaaGreatDoor
open Go.RowKit
def Ci (I : Hp) (k : IntKind) (vs : List Value) (ls : List (List Int)) : Prop := vs.length = ls.length ∧ ∀ j, j < ls.length → Ew I k (vs.getD j undef) (ls.getD j [])
def Cj (k : IntKind) (vs : List Value) (ls : List (List Int)) : HP := know (fun I => Ci I k vs ls) fun _ _ hl h => ⟨h.1, fun j hj => (h.2 j hj).mono hl⟩
def LL (e : TypeId) (k : IntKind) (v : Value) (ls : List (List Int)) : HP := uZ fun vs => Row e 1 v ls.length vs • Cj k vs ls
theorem wX {α : Type _} {l m : List α} {j : Nat} {d : α} (h : j < l.length) : (l ++ m).getD j d = l.getD j d := by simp [List.getD_eq_getElem?_getD, List.getElem?_append_left h]
theorem vO {α : Type _} {l m : List α} {j : Nat} {d : α} (h : l.length ≤ j) : (l ++ m).getD j d = m.getD (j - l.length) d := by simp [List.getD_eq_getElem?_getD, List.getElem?_append_right h]
theorem NK {α : Type _} {l : List α} {i j : Nat} {d : α} : (l.drop i).getD j d = l.getD (i + j) d := by simp [List.getD_eq_getElem?_getD]
theorem Ia {α : Type _} {l : List α} {i j : Nat} {d : α} (h : j < i) : (l.take i).getD j d = l.getD j d := by simp [List.getD_eq_getElem?_getD, List.getElem?_take, h]
theorem yU {α : Type _} {l : List α} {j : Nat} {d : α} (h : j < l.length) : l.getD j d ∈ l := by rw [List.getD_eq_getElem?_getD, List.getElem?_eq_getElem h]; exact List.getElem_mem h
theorem Ci.app {I : Hp} {k : IntKind} {vs us : List Value} {ls ms : List (List Int)} (h : Ci I k vs ls) (g : Ci I k us ms) : Ci I k (vs ++ us) (ls ++ ms) := by
  refine ⟨by simp [h.1, g.1], fun j hj => ?_⟩
  by_cases hl : j < ls.length
  · rw [wX (by rw [h.1]; exact hl), wX hl]; exact h.2 j hl
  · have hj' : j - ls.length < ms.length := by simp at hj; omega
    rw [vO (by rw [h.1]; omega), vO (by omega), h.1]; exact g.2 _ hj'
theorem Ci.drop {I : Hp} {k : IntKind} {vs : List Value} {ls : List (List Int)} (h : Ci I k vs ls) (i : Nat) : Ci I k (vs.drop i) (ls.drop i) := by
  refine ⟨by simp [h.1], fun j hj => ?_⟩
  rw [NK, NK]
  exact h.2 _ (by simp at hj; omega)
theorem Ci.take {I : Hp} {k : IntKind} {vs : List Value} {ls : List (List Int)} (h : Ci I k vs ls) (i : Nat) : Ci I k (vs.take i) (ls.take i) := by
  refine ⟨by simp [h.1], fun j hj => ?_⟩
  simp at hj
  rw [Ia (by omega), Ia (by omega)]
  exact h.2 _ (by omega)
theorem Ew.one {I : Hp} {k : IntKind} {v : Value} {l : List Int} (h : Ew I k v l) : Ci I k [v] [l] := ⟨rfl, fun j hj => by
  obtain rfl : j = 0 := by simp at hj; omega
  exact h⟩
theorem Ew.Yx {I : Hp} {k : IntKind} {v : Value} {l : List Int} (h : Ew I k v l) : v.oneCell' = true := by obtain ⟨a, c, rfl, _⟩ := h; rfl
section
variable {w0 w : World} {F : HP} {e : TypeId} {k : IntKind} {v : Value} {vs us : List Value} {ls ms : List (List Int)} {l : List Int}
theorem V.aaN (H : V w0 w (Cj k vs ls • F)) {j : Nat} (hj : j < ls.length) : gJ w k (vs.getD j undef) (ls.getD j []) := let ⟨I, h, hI⟩ := H.tX; (h.2 j hj).rd hI
theorem V.Yy (H : V w0 w (Cj k vs ls • F)) : vs.length = ls.length := let ⟨I, h, hI⟩ := H.tX; h.1
theorem V.Qx (H : V w0 w F) : V w0 w (Cj k [] [] • F) := H.yB fun I => ⟨rfl, fun j hj => by simp at hj⟩
theorem V.WR (H : V w0 w (Cj k vs ls • oI k v l • F)) : V w0 w (Cj k (vs ++ [v]) (ls ++ [l]) • F) := H.FV (rJ (fun I h g => h.app g.one) F)
theorem V.ll (H : V w0 w (LL e k v ls • F)) : ∃ vs, V w0 w (Row e 1 v ls.length vs • Cj k vs ls • F) := let ⟨vs, h⟩ := H.nN; ⟨vs, h.flat⟩
theorem V.abO (H : V w0 w (Row e 1 v ls.length vs • Cj k vs ls • F)) : V w0 w (LL e k v ls • F) := V.jv vs H.deep
theorem V.Yz {n : Nat} (H : V w0 w (Row e 1 v n vs • Cj k vs ls • F)) : V w0 w (LL e k v ls • F) := by
  have h1 := H.yx
  have h2 := H.swap.Yy
  obtain rfl : n = ls.length := by omega
  exact H.abO
theorem Rd.ad8 {n : Nat} {xs : List Value} (hr : Rd w 1 v n xs) {i : Nat} (h : i ≤ n) : Rd w 1 (vH 1 0 i v) i (xs.take i) := by
  have h1 := hr.cut (Nat.zero_le i) h
  simpa using h1
end
theorem YA {α : Type _} {enc : α → List Value} {sz : Nat} (he : ∀ a, (enc a).length = sz) (l : List α) : (l.flatMap enc).length = l.length * sz := by
  induction l with
  | nil => simp
  | cons a l ih => simp [he, ih, Nat.add_mul, Nat.add_comm]
theorem wO {α : Type _} {enc : α → List Value} {sz : Nat} (he : ∀ a, (enc a).length = sz) {l : List α} {k : Nat} (hk : k < l.length) (d : α) : ((l.flatMap enc).drop (k * sz)).take sz = enc (l.getD k d) := by
  have h1 : l = l.take k ++ l.getD k d :: l.drop (k + 1) := by
    rw [List.getD_eq_getElem?_getD, List.getElem?_eq_getElem hk]
    simp
  have h2 : ((l.take k).flatMap enc).length = k * sz := by rw [YA he, List.length_take, Nat.min_eq_left (by omega)]
  conv => lhs; rw [h1]
  rw [List.flatMap_append, List.drop_append, h2]
  simp [h2, List.take_append, he]
theorem uy {P : Program} {L : List (Nat × Value)} {w : World} {ty : TypeId} {x : Operand} {t : TypeId} {d : TypeDesc} {b o n c sz n' k : Nat} {xs ys : List Value} (hr : Rd w sz (.slice (some ⟨b, o, none⟩) n c) n' xs) (hk : k < n') (hu : P.underlying t = some d) (hd : Oz d = true) (hs : ∀ w, (sizeOf t).run P w = .ok sz w)
    (hx : ev L x = some (.pointer (some ⟨b, o + (k : Int).toNat * sz, none⟩))) (hy : (xs.drop (k * sz)).take sz = ys) (hl : ys.length = sz) : Val P L (.load t x) ty w (.agg ys.toArray) w :=
  Bl (by rw [hu]; rfl) (ND hu hd) hs hl hx (fun j u hj => by
    have hjl : j < sz := by rw [← hl]; exact (List.getElem?_eq_some_iff.1 hj).1
    rw [hr.atS hk hjl, List.getD_eq_getElem?_getD]
    rw [← hy, List.getElem?_take, if_pos hjl, List.getElem?_drop] at hj
    rw [hj]; rfl)
end Go.Proofs.YtpdeedplgmbopaaGreatDoor
end
section
namespace Go.Proofs.YtpdeedplgmbopaaGreatDoor
open Go.RowKit
open _root_.Go.Proofs.Tryz
section
variable {w0 w : World} {F : HP} {v d s z d2 z2 u1 u2 u3 : Value} {L dl il dl2 il2 l1 l2 l3 : List Int} {a a2 : Int}
def afw (L : List Int) (a : Int) (dl : List Int) : Bool := decide (0 ≤ a ∧ a + dl.length ≤ L.length) && ((L.drop a.toNat).take dl.length == dl)
def uE (L : List Int) (a : Int) (dl il : List Int) : Int := if afw L a dl then (if 1024 < (L.length : Int) - dl.length + il.length then 3 else 0) else 1
def uL (L : List Int) (a : Int) (dl il : List Int) : List Int := if uE L a dl il = 0 then L.take a.toNat ++ il ++ L.drop (a.toNat + dl.length) else []
abbrev edV (a : Int) (d z : Value) : Value := .agg #[.int .i64 a, d, z]
theorem yE (H : V w0 w F) (hd : jE w0 F .i32 d dl) (hi : jE w0 F .i32 z il) (b2 : dl.length ≤ 35184372087808) (b3 : il.length ≤ 35184372087808) :
  iI prog 179 #[edV a d z] w fun v' w' => ∃ d' s', v' = edV a d' s' ∧ V w0 w' (jW 21 .i32 d' dl • jW 21 .i32 s' il • F) := by
 refine jr func179 ntmps179 ?_
 refine iV (jV (jH (l := [_, _, _]) H O O) ?_)
 rintro _ w1 ⟨b1, rfl, H1⟩
 refine jV (iy (l := [_, _, _]) H1 dQ O) ?_
 rintro _ w2 ⟨b2, rfl, H2⟩
 refine qR ?_
 have YB := H2.drew
 have AO := V.kp (YB.f2.f2)
 refine y9 [1, 3, 6] AO O (iq 0 O AO 0 bf O ay O (jQ 1 O AO (fun W hW => kF aH O ((Kp.h hW).f2).get.2 O) (iq 2 O AO 1 bf O dh O (jQ 3 O AO (fun W hW => kF aj O ((Kp.h hW).f2).get.2 O) (iq 5 O AO 2 bf O dh O (jQ 6 O AO (fun W hW => kF aj O ((Kp.h hW).f2).get.2 O) (nD 4 O (xW O func71 (oz YB (fun W HW => hd _ (HW.right.right)) (by omega))) ?_)))))))
 rintro u3 w3 H3
 have Bv := V.kp (H3.f3.f3.f3)
 refine eG Bv (fun W hW => (Kp.h hW).right.f2.f2) ?_
 refine nD 7 O (xW O func71 (oz H3 (fun W HW => hi _ (HW.right.right.right)) (by omega))) ?_
 rintro u4 w4 H4
 have Ai := V.kp (H4.f4.f4.f4.f4)
 refine eG Ai (fun W hW => (Kp.h hW).right.f3.f3.f3) ?_
 obtain ⟨au3, cu3, eu3, -⟩ := gJ.open ((H4.f2).aQ)
 subst eu3
 obtain ⟨au4, cu4, eu4, -⟩ := gJ.open ((H4).aQ)
 subst eu4
 refine jB 8 O Ai (fun _ => mF (pl := #[(0, 1), (1, 1), (2, 1)]) (#[_, _, _]) bf dQ (fun w => by kernel_rfl) O (O)) ?_
 refine gy 9 O (by kernel_rfl) (dw 0 (l' := [_, _, _]) (us := [_, _, _]) H4.f3 cO O O O (aG (aX (by first | rfl | exact Rd.one ((H4.f2).aQ)) (aX (by first | rfl | exact Rd.one ((H4).aQ)) bQ))) O O) ?_
 rintro _ w7 H7
 have Dt := V.kp (H7.f4.f4.f4.f4)
 refine gU Dt (by kernel_rfl) ?_
 refine ru (aW (nO ?_))
 refine rD (.inl O) (Oy results179 O bf O (by rw [sQ]; rfl) (H7).get.2) ?_
 exact ⟨_, _, O, H7.right.f3.right.f2⟩
theorem Ib (H : V w0 w F) (hd : jE w0 F .i32 d dl) (hi : jE w0 F .i32 z il) (b2 : dl.length ≤ 35184372087808) (b3 : il.length ≤ 35184372087808) :
  iI prog 198 #[edV a d z] w fun v' w' => ∃ d' s', v' = edV a d' s' ∧ V w0 w' (jW 21 .i32 d' il • jW 21 .i32 s' dl • F) := by
 refine jr func198 ntmps198 ?_
 refine iV (jV (jH (l := [_, _, _]) H O O) ?_)
 rintro _ w1 ⟨b1, rfl, H1⟩
 refine jV (iy (l := [_, _, _]) H1 dQ O) ?_
 rintro _ w2 ⟨b2, rfl, H2⟩
 refine zk7 (bJ 0 bf O ay O (fV aH O (H2.f2).get.2 O (bJ 2 bf O dh O (fV aj O (H2.f2).get.2 O (bJ 1 bf O dh O (fV aj O (H2.f2).get.2 O ?_))))))
 obtain ⟨az, cz, ez, -⟩ := gJ.open (hi _ (H2.right.right))
 subst ez
 obtain ⟨ad, cd, ed, -⟩ := gJ.open (hd _ (H2.right.right))
 subst ed
 refine Z (mF (pl := #[(0, 1), (1, 1), (2, 1)]) (#[_, _, _]) bf dQ (fun w => by kernel_rfl) O (O)) (dS O func179 (yE H2 (fun W HW => hi _ (HW.right.right)) (fun W HW => hd _ (HW.right.right)) (by omega) (by omega)) ?_)
 rintro _ w5 ⟨d5, s5, rfl, H5⟩
 refine aI (dw 0 (l' := [_, _, _]) (us := [_, _, _]) H5.f3 cO O O O (aG (aX (by first | rfl | exact Rd.one ((H5).aQ)) (aX (by first | rfl | exact Rd.one ((H5.f2).aQ)) bQ))) O O) ?_
 rintro _ w6 H6
 refine zkc ?_
 refine rD (.inl O) (Oy results198 O bf O (by rw [sQ]; rfl) (H6).get.2) ?_
 exact ⟨_, _, O, H6.right.f3.right.f2.f2⟩
end
end Go.Proofs.YtpdeedplgmbopaaGreatDoor
end
section
namespace Go.Proofs.YtpdeedplgmbopaaGreatDoor
open Go.RowKit
section
variable {w0 w : World} {F : HP} {v d s z d2 z2 u1 u2 u3 : Value} {L dl il dl2 il2 l1 l2 l3 : List Int} {a a2 : Int}
def jK (a a2 : Int) (dl il dl2 il2 : List Int) : Nat := if dl2.length = 0 ∧ a2 = a + il.length then 1 else if il.length = 0 ∧ il2.length = 0 ∧ a = a2 + dl2.length then 2 else 0
def jA (k : Nat) (a a2 : Int) : Int := if k = 1 then a else if k = 2 then a2 else 0
def jD (k : Nat) (dl dl2 : List Int) : List Int := if k = 1 then dl else if k = 2 then dl2 ++ dl else []
def jI (k : Nat) (il il2 : List Int) : List Int := if k = 1 then il ++ il2 else []
end
structure eF where
  a : Int
  d : Value
  dl : List Int
  i : Value
  il : List Int
instance : Inhabited eF := ⟨⟨0, .slice none 0 0, [], .slice none 0 0, []⟩⟩
def eF.enc (e : eF) : List Value := [.int .i64 e.a, e.d, e.i]
theorem eF.Gl (e : eF) : e.enc.length = 3 := rfl
def eF.Imm (I : Hp) (e : eF) : Prop := Ew I .i32 e.d e.dl ∧ Ew I .i32 e.i e.il
theorem eF.Imm.mono {I I' : Hp} {e : eF} (hl : Hp.le I I') (h : e.Imm I) : e.Imm I' := ⟨h.1.mono hl, h.2.mono hl⟩
def eF.says (e : eF) : Int × List Int × List Int := (e.a, e.dl, e.il)
def Jo (I : Hp) (es : List eF) : Prop := ∀ k, k < es.length → (es.getD k default).Imm I
theorem Jo.mono {I I' : Hp} {es : List eF} (hl : Hp.le I I') (h : Jo I es) : Jo I' es := fun k hk => (h k hk).mono hl
theorem Jo.app {I : Hp} {es fs : List eF} (h : Jo I es) (g : Jo I fs) : Jo I (es ++ fs) := fun k hk => by
  by_cases hl : k < es.length
  · rw [wX hl]; exact h k hl
  · rw [vO (by omega)]; exact g _ (by simp at hk; omega)
theorem Jo.one {I : Hp} {e : eF} (h : e.Imm I) : Jo I [e] := fun k hk => by
  obtain rfl : k = 0 := by simp at hk; omega
  exact h
def lU (es : List eF) : HP := know (fun I => Jo I es) fun _ _ hl h => h.mono hl
def edK (e : eF) : HP := know (fun I => e.Imm I) fun _ _ hl h => h.mono hl
def LX (v : Value) (es : List eF) : HP := Row 189 3 v es.length (es.flatMap eF.enc) • lU es
def Ey (I : Hp) (sz : Nat) (v : Value) (n : Nat) (xs : List Value) : Prop := xs.length = n * sz ∧ ∃ a c, v = .slice a n c ∧ n ≤ c ∧ (c : Int) ≤ 9223372036854775807 ∧
  (0 < n → ∃ b o cs e fr, a = some ⟨b, o, none⟩ ∧ I b = some (.cells cs e fr) ∧ ∀ j, j < n * sz → cs[o + j]? = some (xs.getD j undef))
theorem Ey.mono {I I' : Hp} {sz n : Nat} {v : Value} {xs : List Value} (hl : Hp.le I I') (h : Ey I sz v n xs) : Ey I' sz v n xs := by
  obtain ⟨h0, a, c, h1, h2, h3, h4⟩ := h
  exact ⟨h0, a, c, h1, h2, h3, fun hp => let ⟨b, o, cs, e, fr, e1, e2, e3⟩ := h4 hp; ⟨b, o, cs, e, fr, e1, hl _ _ e2, e3⟩⟩
theorem Ey.rd {w : World} {m : Nat} {I : Hp} {sz n : Nat} {v : Value} {xs : List Value} (h : Ey I sz v n xs) (hI : ∀ k o, I k = some o → m ≤ k ∧ w.heap[k]? = some o) : Rd w sz v n xs := by
  obtain ⟨h0, a, c, h1, h2, h3, h4⟩ := h
  exact ⟨h0, a, c, h1, h2, h3, fun hp => let ⟨b, o, cs, e, fr, e1, e2, e3⟩ := h4 hp; ⟨b, o, e1, fun j hj => kC (hI _ _ e2).2 (e3 j hj)⟩⟩
theorem Ey.Yx {I : Hp} {sz n : Nat} {v : Value} {xs : List Value} (h : Ey I sz v n xs) : v.oneCell' = true := by obtain ⟨_, a, c, rfl, _⟩ := h; rfl
def ElI (I : Hp) (v : Value) (es : List eF) : Prop := Ey I 3 v es.length (es.flatMap eF.enc) ∧ Jo I es
theorem ElI.mono {I I' : Hp} {v : Value} {es : List eF} (hl : Hp.le I I') (h : ElI I v es) : ElI I' v es := ⟨h.1.mono hl, h.2.mono hl⟩
def EJ (v : Value) (es : List eF) : HP := know (fun I => ElI I v es) fun _ _ hl h => h.mono hl
def Fg (I : Hp) (gs : List (Value × List eF)) : Prop := ∀ k, k < gs.length → ElI I (gs.getD k default).1 (gs.getD k default).2
theorem Fg.mono {I I' : Hp} {gs : List (Value × List eF)} (hl : Hp.le I I') (h : Fg I gs) : Fg I' gs := fun k hk => (h k hk).mono hl
theorem Fg.app {I : Hp} {es fs : List (Value × List eF)} (h : Fg I es) (g : Fg I fs) : Fg I (es ++ fs) := fun k hk => by
  by_cases hl : k < es.length
  · rw [wX hl]; exact h k hl
  · rw [vO (by omega)]; exact g _ (by simp at hk; omega)
theorem Fg.one {I : Hp} {v : Value} {es : List eF} (h : ElI I v es) : Fg I [(v, es)] := fun k hk => by
  obtain rfl : k = 0 := by simp at hk; omega
  exact h
theorem Fg.take {I : Hp} {gs : List (Value × List eF)} (h : Fg I gs) (n : Nat) : Fg I (gs.take n) := fun k hk => by
  simp at hk
  rw [Ia (by omega)]
  exact h k (by omega)
def pJ (gs : List (Value × List eF)) : HP := know (fun I => Fg I gs) fun _ _ hl h => h.mono hl
def Fh (v : Value) (gs : List (Value × List eF)) : HP := Row 80 1 v gs.length (gs.map (·.1)) • pJ gs
section
variable {w0 w : World} {F : HP} {v u : Value} {es fs : List eF} {e : eF} {gs : List (Value × List eF)} {a : Int} {d i : Value} {dl il : List Int}
theorem V.J8 (H : V w0 w F) : V w0 w (lU [] • F) := H.yB fun I k hk => by simp at hk
theorem V.J9 (H : V w0 w F) : V w0 w (pJ [] • F) := H.yB fun I k hk => by simp at hk
theorem V.tY (H : V w0 w F) (a : Option Addr) : V w0 w (LX (.slice a 0 0) [] • F) := (H.J8.jw (e := 189) (sz := 3) a).deep
theorem V.Gm (H : V w0 w F) (a : Option Addr) : V w0 w (Fh (.slice a 0 0) [] • F) := (H.J9.jw (e := 80) (sz := 1) a).deep
theorem V.edL (H : V w0 w (LX v es • F)) : V w0 w (Row 189 3 v es.length (es.flatMap eF.enc) • lU es • F) := H.flat
theorem V.aaO (H : V w0 w (Fh v gs • F)) : V w0 w (Row 80 1 v gs.length (gs.map (·.1)) • pJ gs • F) := H.flat
theorem V.AP (H : V w0 w (Row 189 3 v (es.length + 1) (es.flatMap eF.enc ++ [.int .i64 a, d, i]) • oI .i32 d dl • oI .i32 i il • lU es • F)) : V w0 w (LX v (es ++ [⟨a, d, dl, i, il⟩]) • F) := by
  have h1 : V w0 w (oI .i32 d dl • oI .i32 i il • lU es • Row 189 3 v (es.length + 1) (es.flatMap eF.enc ++ [.int .i64 a, d, i]) • F) := H.of_eq (by ac_rfl)
  have h2 : V w0 w (edK ⟨a, d, dl, i, il⟩ • lU es • Row 189 3 v (es.length + 1) (es.flatMap eF.enc ++ [.int .i64 a, d, i]) • F) := h1.FV (rJ (fun I h g => ⟨h, g⟩) _)
  have h3 : V w0 w (lU (es ++ [⟨a, d, dl, i, il⟩]) • Row 189 3 v (es.length + 1) (es.flatMap eF.enc ++ [.int .i64 a, d, i]) • F) := h2.FV (rJ (fun I h g => g.app (Jo.one h)) _)
  refine V.deep (h3.swap.of_eq ?_)
  rw [List.length_append, List.flatMap_append]
  simp [eF.enc]
theorem V.rO (H : V w0 w (LX v es • F)) : V w0 w (EJ v es • F) := by
  have hl := H.edL.yx
  have H := H.edL
  rcases H.vG with ⟨a, rfl, h1, h2, H1⟩ | ⟨g, o, c, cur, rfl, h2, h3, h4, h5, H1⟩
  · refine H1.FV (qI (fun I hI => ⟨⟨hl, a, 0, by rw [h1], by omega, by decide, fun h => by omega⟩, hI⟩) F)
  · exact H1.freeze.FV (rJ (fun I hI hE => ⟨⟨hl, _, c, rfl, h2, h3, fun _ => ⟨g, o, cur, _, (0, 0), rfl, hI, h5⟩⟩, hE⟩) F)
theorem V.xO (H : V w0 w (EJ v es • F)) : Rd w 3 v es.length (es.flatMap eF.enc) := let ⟨I, h, hI⟩ := H.tX; h.1.rd hI
theorem V.ad9 (H : V w0 w (EJ v es • F)) {k : Nat} (hk : k < es.length) : gJ w .i32 (es.getD k default).d (es.getD k default).dl := let ⟨I, h, hI⟩ := H.tX; (h.2 k hk).1.rd hI
theorem V.aea (H : V w0 w (EJ v es • F)) {k : Nat} (hk : k < es.length) : gJ w .i32 (es.getD k default).i (es.getD k default).il := let ⟨I, h, hI⟩ := H.tX; (h.2 k hk).2.rd hI
theorem V.Qy (H : V w0 w (pJ gs • F)) {k : Nat} (hk : k < gs.length) : V w0 w (EJ (gs.getD k default).1 (gs.getD k default).2 • pJ gs • F) := H.vw.FV (qI (fun I h => h k hk) _)
theorem V.Qz (H : V w0 w (pJ gs • F)) (n : Nat) : V w0 w (pJ (gs.take n) • F) := H.FV (qI (fun I h => h.take n) _)
theorem V.uz (H : V w0 w (Row 80 1 v (gs.length + 1) (gs.map (·.1) ++ [u]) • EJ u es • pJ gs • F)) : V w0 w (Fh v (gs ++ [(u, es)]) • F) := by
  have h1 : V w0 w (EJ u es • pJ gs • Row 80 1 v (gs.length + 1) (gs.map (·.1) ++ [u]) • F) := H.of_eq (by ac_rfl)
  have h3 : V w0 w (pJ (gs ++ [(u, es)]) • Row 80 1 v (gs.length + 1) (gs.map (·.1) ++ [u]) • F) := h1.FV (rJ (fun I h g => g.app (Fg.one h)) _)
  refine V.deep (h3.swap.of_eq ?_)
  rw [List.length_append, List.map_append]
  rfl
theorem V.Du (H : V w0 w (lU es • F)) : ∀ x ∈ es.flatMap eF.enc, x.oneCell' = true := by
  obtain ⟨I, h, hI⟩ := H.tX
  intro x hx
  obtain ⟨e, he, hx⟩ := List.mem_flatMap.1 hx
  obtain ⟨k, hk, rfl⟩ := List.getElem_of_mem he
  have := h k hk
  rw [List.getD_eq_getElem?_getD, List.getElem?_eq_getElem hk] at this
  simp [eF.enc] at hx
  rcases hx with rfl | rfl | rfl
  · rfl
  · exact this.1.Yx
  · exact this.2.Yx
end
end Go.Proofs.YtpdeedplgmbopaaGreatDoor
end
