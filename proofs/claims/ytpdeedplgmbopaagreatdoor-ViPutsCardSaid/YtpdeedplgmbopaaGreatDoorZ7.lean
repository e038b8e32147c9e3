import Derived.Test.YtpdeedplgmbopaaGreatDoorZ4
import Derived.Test.YtpdeedplgmbopaaGreatDoorZ5
import Derived.Test.YtpdeedplgmbopaaGreatDoorZ3
set_option linter.unusedSimpArgs false
set_option linter.unusedVariables false
/- Texts of mine, joined, their names in short: Ring Ring2 Ring3 RingAny LL Flat Undo1 Undo2 Eds. -/
section
namespace Go.Proofs.YtpdeedplgmbopaaGreatDoor
open Go.RowKit
open _root_.Go.Proofs.Tryz
def dN (s : List Value) (h n p : Nat) : Array Value := (Value.bool true :: (s ++ [.int .i64 h, .int .i64 n, .int .i64 p])).toArray
section
variable {s : List Value} {h n p : Nat}
theorem nV (hs : s.length = 60) : (dN s h n p).size = 64 := by simp [dN, hs]
theorem Au : (dN s h n p)[0]? = some (.bool true) := by simp [dN]
theorem NU (hs : s.length = 60) {i : Nat} (hi : i < 60) : (dN s h n p)[1 + i]? = some (s.getD i undef) := by
  simp [dN, Nat.add_comm 1 i, List.getElem?_append_left (show i < s.length by omega), List.getD_eq_getElem?_getD, show i < s.length by omega]
theorem A8 (hs : s.length = 60) : (dN s h n p)[61]? = some (.int .i64 h) := by simp [dN, hs]
theorem oL (hs : s.length = 60) : (dN s h n p)[62]? = some (.int .i64 n) := by simp [dN, hs]
theorem J5 (hs : s.length = 60) : (dN s h n p)[63]? = some (.int .i64 p) := by simp [dN, hs]
theorem Me (hs : s.length = 60) (x : Nat) : (dN s h n p).setIfInBounds 61 (.int .i64 x) = dN s x n p := by
  apply Array.ext'; simp [dN, List.set_append, hs]
theorem MB (hs : s.length = 60) (x : Nat) : (dN s h n p).setIfInBounds 62 (.int .i64 x) = dN s h x p := by
  apply Array.ext'; simp [dN, List.set_append, hs]
theorem pX (hs : s.length = 60) (x : Nat) : (dN s h n p).setIfInBounds 63 (.int .i64 x) = dN s h n x := by
  apply Array.ext'; simp [dN, List.set_append, hs]
theorem Aw (hs : s.length = 60) {i : Nat} (hi : i < 60) (v : Value) : (dN s h n p).setIfInBounds (1 + i) v = dN (s.set i v) h n p := by
  apply Array.ext'; simp [dN, Nat.add_comm 1 i, List.set_append, hs, hi]
end
def QF (I : Hp) (s : List Value) (h : Nat) (E : List (List Int)) : Prop := ∀ i, i < E.length → ED I .i32 (s.getD ((h + i) % 60) undef) (E.getD i [])
def BK (s : List Value) (h : Nat) (E : List (List Int)) : HP := know (fun I => QF I s h E) fun _ _ hl hk i hi => (hk i hi).mono hl
def dZ (p : Nat) (E : List (List Int)) (place : Nat) : HP := wE fun (x : List Value × Nat) =>
  fact (x.1.length = 60 ∧ x.2 < 60 ∧ E.length ≤ 60 ∧ (place < E.length ∨ place = 0) ∧ (∀ e ∈ E, e.length ≤ 1024) ∧ ∀ v ∈ x.1, v.oneCell' = true) • dW p (.cells (dN x.1 x.2 E.length place) 207 (0, 0)) • BK x.1 x.2 E
section
variable {w0 w : World} {F : HP} {p place : Nat} {E : List (List Int)}
theorem V.ring (H : V w0 w (dZ p E place • F)) : ∃ s h, s.length = 60 ∧ h < 60 ∧ E.length ≤ 60 ∧ (place < E.length ∨ place = 0) ∧ (∀ e ∈ E, e.length ≤ 1024) ∧ (∀ v ∈ s, v.oneCell' = true) ∧ V w0 w (dW p (.cells (dN s h E.length place) 207 (0, 0)) • BK s h E • F) := by
  obtain ⟨⟨s, h⟩, H⟩ := H.nX
  obtain ⟨⟨h1, h2, h3, h4, h5, h6⟩, H⟩ := H.flat.fact
  exact ⟨s, h, h1, h2, h3, h4, h5, h6, H.flat⟩
theorem V.yL {s : List Value} {h : Nat} (h1 : s.length = 60) (h2 : h < 60) (h3 : E.length ≤ 60) (h4 : place < E.length ∨ place = 0) (h5 : ∀ e ∈ E, e.length ≤ 1024) (h6 : ∀ v ∈ s, v.oneCell' = true) (H : V w0 w (dW p (.cells (dN s h E.length place) 207 (0, 0)) • BK s h E • F)) : V w0 w (dZ p E place • F) :=
  V.jw (s, h) (V.deep (V.lK ⟨h1, h2, h3, h4, h5, h6⟩ H.deep))
theorem OX (H : V w0 w F) : iE prog 110 #[] w fun v w' => ∃ p, v = .pointer (some ⟨p, 0, none⟩) ∧ V w0 w' (dZ p [] 0 • F) := by
  refine WM func110 ntmps110 ?_
  refine jQ O (iR (Z (mJ (pl := #[(0, 1), (1, 60), (61, 1), (62, 1), (63, 1)]) (dN (List.replicate 60 (.slice none 0 0)) 0 0 0) dn zeroValue207 (fun w => by kernel_rfl) O (by kernel_rfl)) (kD (Vs H O) ?_)))
  rintro _ w1 ⟨b1, rfl, H1⟩
  refine fB O (dL results110 O ?_)
  refine ⟨b1, O, V.yL (s := List.replicate 60 (.slice none 0 0)) (h := 0) (by simp) (by omega) (by simp) (.inr O) (by simp) (by intro v hv; rw [List.eq_of_mem_replicate hv]; rfl) ?_⟩
  exact V.swap (V.yJ (fun I i hi => by simp at hi) H1)
theorem kW (t : TypeId) {cs : Array Value} {fr : Nat × Nat} {m : Bool} (hb : w.heap[p]? = some (.cells cs t fr)) (h0 : cs[0]? = some (.bool m)) :
    iE prog 140 #[.pointer (some ⟨p, 0, none⟩)] w fun v w' => v = .bool (!m) ∧ w = w' := by
  refine iZ func140 ntmps140 ?_
  refine jQ O (bQ O (Z (jy qR O O) (Yh O (fun h1 => ?_))))
  (try simp only [aA] at h1)
  refine bg (bT O (bg (dK O (bg (bJ 0 dn O aP O (bg (fM bY O hb h0 (bg (Z (lJ O) (iH O O (fB O (dL results140 O ?_))))))))))))
  exact ⟨O, O⟩
theorem V.Dw {s : List Value} {h i : Nat} (H : V w0 w (BK s h E • F)) (hi : i < E.length) : gJ w .i32 (s.getD ((h + i) % 60) undef) (E.getD i []) := let ⟨I, k, hI⟩ := H.uF; (k i hi).rd hI
theorem xG {s : List Value} {h n m : Nat} {t : TypeId} {fr : Nat × Nat} {k : Nat} (hs : s.length = 60) (hh : h < 60) (hk : k < 60) (hb : w.heap[p]? = some (.cells (dN s h n m) t fr)) :
  iE prog 141 #[.pointer (some ⟨p, 0, none⟩), .int .i64 k] w fun v w' => v = s.getD ((h + k) % 60) undef ∧ zS w w' := by
 refine oV func141 ntmps141 ?_
 refine jQ O (aN ?_)
 refine qM (n := 13) [0, 1, 2, 3, 4, 5, 6, 7, 8, 9, 10, 11, 12] (fun W => W.heap = w.heap) (by kernel_rfl) (by kernel_rfl) O ?_
 have hS0 : (fun W => W.heap = w.heap) (w.drew) := rfl
 refine iQ 0 O hS0 O (iQ 1 O hS0 O (jU 2 O hS0 O (gU 3 O hS0 61 dn O ay O ?_)))
 refine jO 4 O hS0 (fun W hW => jV aH O (by rw [hW]; exact hb) (A8 hs)) ?_
 refine iQ 5 O hS0 O (jC 6 O hS0 (fun _ => fJ O O (by omega)) ?_)
 refine jC 7 O hS0 (fun _ => Yv O O (by omega) (by  omega)) ?_
 refine jU 8 O hS0 O (gU 9 O hS0 1 dn O sizeOf205 O (jC 10 O hS0 (fun _ => Aa underlying205 dh O O (by omega)) ?_))
 refine jO 11 O hS0 (fun W hW => jV aj O (by rw [hW]; exact hb) (by rw [show (1 + (((h : Int) + (k : Int)) % 60).toNat * 1) = 1 + (h + k) % 60 from by omega]; exact NU hs (by omega))) ?_
 refine jC 12 O hS0 (fun _ => dR O) (qV (aX (nI (dL results141 O ?_))))
 exact ⟨O, ⟨1, O⟩⟩
theorem OY (H : V w0 w (dZ p E place • F)) : iE prog 86 #[.pointer (some ⟨p, 0, none⟩)] w fun v w' => v = .int .i64 E.length ∧ w = w' := by
  obtain ⟨s, h, hs, hh, hE, hp, hm, ho, H1⟩ := H.ring
  have hb := H1.get.2
  refine iZ func86 ntmps86 ?_
  refine jQ O (aN (bQ O (dS O func140 (kW _ hb Au) ?_)))
  rintro _ _ ⟨rfl, rfl⟩
  refine iJ (qo (gG (bQ O (dK O (bJ 62 dn O ay O (fM aH O hb (oL hs) (fB O (dL results86 O ?_))))))))
  exact ⟨O, O⟩
theorem OZ {s : List Value} {u : Value} {i : Nat} (h : ∀ v ∈ s, v.oneCell' = true) (hu : u.oneCell' = true) : ∀ v ∈ s.set i u, v.oneCell' = true := by
  intro v hv
  rcases List.mem_or_eq_of_mem_set hv with hv | rfl
  · exact h v hv
  · exact hu
theorem TU {I : Hp} {s : List Value} {h : Nat} {l : List Int} {v : Value} (hs : s.length = 60) (hh : h < 60) (hE : E.length ≤ 60) (hS : QF I s h E) (hv : ED I .i32 v l) :
    QF I (s.set ((h + 59) % 60) v) ((h + 59) % 60) ((l :: E).take 60) := by
  intro i hi
  have ahl : i < 60 ∧ i < E.length + 1 := by simp at hi; omega
  rw [List.getD_eq_getElem?_getD (l := (l :: E).take 60), List.getElem?_take, if_pos (by omega)]
  cases i with
  | zero =>
    have e : ((h + 59) % 60 + 0) % 60 = (h + 59) % 60 := by omega
    rw [e, List.getD_eq_getElem?_getD, List.getElem?_set_self (by omega)]
    exact hv
  | succ i =>
    have e : ((h + 59) % 60 + (i + 1)) % 60 = (h + i) % 60 := by omega
    have hne : ¬ (h + 59) % 60 = (h + i) % 60 := by omega
    rw [e, List.getD_eq_getElem?_getD, List.getElem?_set_ne hne, ← List.getD_eq_getElem?_getD]
    have := hS i (by omega)
    simpa [List.getD_eq_getElem?_getD] using this
theorem EO {v : Value} {l : List Int} (H : V w0 w (dZ p E place • F)) (hr : jF w0 F .i32 v l) (hl : l.length ≤ 1024) :
    iE prog 211 #[.pointer (some ⟨p, 0, none⟩), v] w fun _ w' => V w0 w' (dZ p ((l :: E).take 60) 0 • F) := by
  obtain ⟨s, h, hs, hh, hE, hp, hm, ho, H⟩ := H.ring
  have hh' : (h + 59) % 60 < 60 := by omega
  refine oV func211 ntmps211 ?_
  refine bQ O (nG O O (bJ 61 dn O ay O (fM aH O H.get.2 (A8 hs) (Z (fJ O O (by omega)) (Z (iV O O (by omega)) ?_)))))
  refine Z (Yv O O (by omega) (by  omega)) ?_
  refine dK O (bJ 61 dn O ay O (aJ (jP H ay O O O (by rw [nV hs]; decide)) ?_))
  rintro _ w1 H1
  rw [show (((h : Int) + 60 - 1) % 60) = (((h + 59) % 60 : Nat) : Int) from by omega, Me hs] at H1
  refine qQ ?_
  refine qM (n := 11) [0, 1, 2, 3, 4, 5, 6, 7, 8, 9, 10] (fun W => W.heap[p]? = some (.cells (dN s ((h + 59) % 60) E.length place) 207 (0, 0))) (by kernel_rfl) (by kernel_rfl) O ?_
  have hS0 : (fun W => W.heap[p]? = some (.cells (dN s ((h + 59) % 60) E.length place) 207 (0, 0))) (w1.drew) := H1.get.2
  have H1d := H1.drew
  refine iQ 0 O hS0 O (iQ 1 O hS0 O (jU 2 O hS0 O (gU 3 O hS0 61 dn O ay O (jO 4 O hS0 (fun W hW => jV aH O hW (A8 hs)) (iQ 5 O hS0 O (jU 7 O hS0 O (gU 8 O hS0 1 dn O sizeOf205 O (mZ 6 O (xq O func71 (oK H1d hr.under.under (by omega))) ?_))))))))
  rintro u w2 H2
  have hS2 : (fun W => W.heap[p]? = some (.cells (dN s ((h + 59) % 60) E.length place) 207 (0, 0))) w2 := H2.swap.get.2
  refine Gl hS2 ?_
  refine jC 9 O hS2 (fun _ => Aa underlying205 dh O O (by omega)) ?_
  refine gB 10 O (by kernel_rfl) (jP H2.swap dh O O H2.aS.one (by rw [nV hs]; omega)) ?_
  rintro _ w3 H3
  rw [show (1 + ((((h + 59) % 60 : Nat) : Int)).toNat * 1) = 1 + (h + 59) % 60 from by omega, Aw hs hh'] at H3
  have hs' : (s.set ((h + 59) % 60) u).length = 60 := by simp [hs]
  have ho' := OZ ho (u := u) (i := (h + 59) % 60) H2.aS.one
  refine JO (by kernel_rfl) ?_
  refine qV (aX (bQ O (nG O O (bJ 62 dn O ay O (fM aH O H3.get.2 (oL hs') (Z (fJ O O (by omega)) (Z (zZ O O) (dK O (bJ 62 dn O ay O (aJ (jP H3 ay O O O (by rw [nV hs']; decide)) ?_))))))))))
  rintro _ w4 H4
  rw [show min ((E.length : Int) + 1) 60 = ((min (E.length + 1) 60 : Nat) : Int) from by omega, MB hs'] at H4
  refine iJ (aC (nG O O (bJ 63 dn O ay O (aJ (jP H4 ay O O O (by rw [nV hs']; decide)) ?_))))
  rintro _ w5 H5
  rw [show (Value.int .i64 0) = .int .i64 ((0 : Nat) : Int) from rfl, pX hs'] at H5
  refine bW (lM (.inr O) results211 ?_)
  have hlen : ((l :: E).take 60).length = min (E.length + 1) 60 := by simp; omega
  refine V.yL hs' hh' (by omega) (.inr O) ?_ ho' ?_
  · intro e he
    rcases List.mem_cons.1 (List.mem_of_mem_take he) with rfl | he
    · exact hl
    · exact hm e he
  · rw [hlen]
    exact (H5.swap.lN.LZ.F7 (rO (fun I a b => TU hs hh hE a b) _)).swap
end
def Dx (E : List (List Int)) (place : Nat) (way : Int) (l : List Int) : Int × List (List Int) × Nat :=
  if way < 0 ∨ 2 < way then (1, E, place)
  else if 1024 < l.length then (3, E, place)
  else if way ≠ 0 ∧ 0 < E.length then
    if 1024 < l.length + (E.getD 0 []).length then (3, E, place)
    else (0, (if way = 1 then E.getD 0 [] ++ l else l ++ E.getD 0 []) :: E.tail, 0)
  else if way = 0 ∧ l.length = 0 then (0, E, place)
  else (0, (l :: E).take 60, 0)
theorem IW {I : Hp} {s : List Value} {h : Nat} {l : List Int} {v : Value} {E : List (List Int)} (hs : s.length = 60) (hh : h < 60) (hE : E.length ≤ 60) (h0 : 0 < E.length) (hS : QF I s h E) (hv : ED I .i32 v l) :
    QF I (s.set h v) h (l :: E.tail) := by
  intro i hi
  have hi' : i < E.length := by simp at hi; omega
  cases i with
  | zero =>
    have e : (h + 0) % 60 = h := by omega
    rw [e, List.getD_eq_getElem?_getD, List.getElem?_set_self (by omega)]
    exact hv
  | succ i =>
    have hne : ¬ h = (h + (i + 1)) % 60 := by omega
    rw [List.getD_eq_getElem?_getD, List.getElem?_set_ne hne, ← List.getD_eq_getElem?_getD]
    have := hS (i + 1) hi'
    simpa [List.getD_eq_getElem?_getD] using this
section
variable {w0 w : World} {F : HP} {p place : Nat} {E : List (List Int)} {v : Value} {l : List Int} {way : Int}
theorem xA (h0 : 0 < E.length) (x : List Int) : (x :: E.tail).length = E.length := by simp; omega
theorem MC (H : V w0 w (dZ p E place • F)) (hr : jF w0 F .i32 v l) (hw : way < 0 ∨ 2 < way) :
    iE prog 199 #[.pointer (some ⟨p, 0, none⟩), .int .i64 way, v] w fun v' w' => v' = .int .i64 1 ∧ V w0 w' (dZ p E place • F) := by
  obtain ⟨s, h, hs, hh, hE, hp, hm, ho, H1⟩ := H.ring
  have hb := H1.get.2
  refine zT func199 ntmps199 ?_
  refine jQ O (aN (bQ O (dS O func140 (kW _ hb Au) ?_)))
  rintro _ _ ⟨rfl, rfl⟩
  refine iJ (qo (gG (aN (bQ O (Z (fZ O O) (jG O (fun h1 => ?_) (fun h1 => ?_)))))))
  · (try simp only [aA] at h1)
    refine bF (bF (iU O O (iJ (CP (jM O (aB (dL nP O ?_)))))))
    exact ⟨O, H⟩
  · (try simp only [aA] at h1)
    refine bg (bT O (bg (Z (dY O O) (iH O O (iJ (wcA O (fun h2 => ?_)))))))
    (try simp only [aA] at h2)
    refine jM O (aB (dL nP O ?_))
    exact ⟨O, H⟩
theorem J6 (H : V w0 w (dZ p E place • F)) (hr : jF w0 F .i32 v l) (hw : 0 ≤ way ∧ way ≤ 2) (hl : 1024 < l.length) :
    iE prog 199 #[.pointer (some ⟨p, 0, none⟩), .int .i64 way, v] w fun v' w' => v' = .int .i64 3 ∧ V w0 w' (dZ p E place • F) := by
  obtain ⟨s, h, hs, hh, hE, hp, hm, ho, H1⟩ := H.ring
  have hb := H1.get.2
  obtain ⟨a, c, rfl, _, _, _⟩ := (hr w H.right).open
  refine zT func199 ntmps199 ?_
  refine jQ O (aN (bQ O (dS O func140 (kW _ hb Au) ?_)))
  rintro _ _ ⟨rfl, rfl⟩
  refine iJ (qo (gG (aN (bQ O (Z (fZ O O) (Yg O (fun h1 => ?_)))))))
  (try simp only [aA] at h1)
  refine bg (bT O (bg (Z (dY O O) (iH O O (iJ (TN O (fun h2 => ?_)))))))
  (try simp only [aA] at h2)
  refine gG (bQ O (Z (ig O O) (jG O (fun h3 => ?_) (fun h3 => ?_))))
  · (try simp only [aA] at h3)
    refine bg (bT O (bg (dK O (bg (bJ 62 dn O ay O (bg (fM aH O hb (oL hs) (bg (Z (dY O O) (iU O O (uZ O (aY (bQ O (Z (jd aj O) (Z (dY O O) (xsA O (fun h4 => ?_)))))))))))))))))
    (try simp only [aA] at h4)
    refine bF (bF (ng (ng (ng (ng (ng (ng (ng (bF (iU O O (fG O (CP (jM O (aT (aB (dL nP O ?_))))))))))))))))
    exact ⟨O, H⟩
  · (try simp only [aA] at h3)
    refine bF (bF (bF (bF (bF (iH O O (uZ O (aY (bQ O (Z (jd aj O) (Z (dY O O) (xsA O (fun h5 => ?_))))))))))))
    (try simp only [aA] at h5)
    refine bF (bF (ng (ng (ng (ng (ng (ng (ng (bF (iU O O (fG O (CP (jM O (aT (aB (dL nP O ?_))))))))))))))))
    exact ⟨O, H⟩
theorem Gs (H : V w0 w (dZ p E place • F)) (hr : jF w0 F .i32 v l) (hl : l.length = 0) :
    iE prog 199 #[.pointer (some ⟨p, 0, none⟩), .int .i64 0, v] w fun v' w' => v' = .int .i64 0 ∧ V w0 w' (dZ p E place • F) := by
  obtain ⟨s, h, hs, hh, hE, hp, hm, ho, H1⟩ := H.ring
  have hb := H1.get.2
  obtain ⟨a, c, rfl, _, _, _⟩ := (hr w H.right).open
  refine zT func199 ntmps199 ?_
  refine jQ O (aN (bQ O (dS O func140 (kW _ hb Au) ?_)))
  rintro _ _ ⟨rfl, rfl⟩
  refine iJ (qo (gG (aN (bQ O (Z (fZ O O) (Yg O (fun h1 => ?_)))))))
  (try simp only [aA] at h1)
  refine bg (bT O (bg (Z (dY O O) (iH O O (iJ (TN O (fun h2 => ?_)))))))
  (try simp only [aA] at h2)
  refine gG (bQ O (Z (ig O O) (Yg O (fun h3 => ?_))))
  (try simp only [aA] at h3)
  refine bF (bF (bF (bF (bF (iH O O (uZ O (aY (bQ O (Z (jd aj O) (Z (dY O O) (Yg O (fun h4 => ?_))))))))))))
  (try simp only [aA] at h4)
  refine bg (bT O (bg (bT O (bF (bF (bF (bF (bF (bF (bF (bg (iH O O (iH O O (fG O (qo (bQ O (Z (dX O O) (xsA O (fun h5 => ?_)))))))))))))))))))
  (try simp only [aA] at h5)
  refine bg (bT O (bg (Z (jd aj O) (bg (Z (dX O O) (iU O O (fG O (wcA O (fun h6 => ?_)))))))))
  (try simp only [aA] at h6)
  refine jM O (aT (aB (dL nP O ?_)))
  exact ⟨O, H⟩
theorem MF (H : V w0 w (dZ p E place • F)) (hr : jF w0 F .i32 v l) (hw : 0 ≤ way ∧ way ≤ 2) (hl : l.length ≤ 1024) (hj : way = 0 ∨ E.length = 0) (hn : ¬ (way = 0 ∧ l.length = 0)) :
  iE prog 199 #[.pointer (some ⟨p, 0, none⟩), .int .i64 way, v] w fun v' w' => v' = .int .i64 0 ∧ V w0 w' (dZ p ((l :: E).take 60) 0 • F) := by
 obtain ⟨s, h, hs, hh, hE, hp, hm, ho, H1⟩ := H.ring
 have hb := H1.get.2
 obtain ⟨a, c, hv, _, _, _⟩ := (hr w H.right).open
 subst hv
 refine zT func199 ntmps199 ?_
 refine jQ O (aN (bQ O (dS O func140 (kW _ hb Au) ?_)))
 rintro _ _ ⟨rfl, rfl⟩
 refine iJ (qo (gG (aN (bQ O (Z (fZ O O) (Yg O (fun h1 => ?_)))))))
 (try simp only [aA] at h1)
 refine bg (bT O (bg (Z (dY O O) (iH O O (iJ (TN O (fun h2 => ?_)))))))
 (try simp only [aA] at h2)
 refine gG (bQ O (Z (ig O O) (jG O (fun h3 => ?_) (fun h3 => ?_))))
 ·(try simp only [aA] at h3)
  refine bg (bT O (bg (dK O (bg (bJ 62 dn O ay O (bg (fM aH O hb (oL hs) (bg ?_))))))))
  refine Z (NI (dY O O) (by first | (rw [decide_eq_true_eq]; omega) | (rw [decide_eq_false_iff_not]; omega) | (rw [beq_iff_eq]; omega) | (rw [beq_eq_false_iff_ne]; omega) | (rw [bne_iff_ne]; omega) | (rw [bne_eq_false_iff_eq]; omega) | (simp; done) | (simp; omega))) ?_
  refine iU O O (uZ O (aY (bQ O (Z (jd aj O) (Z (dY O O) (Yg O (fun h4 => ?_)))))))
  (try simp only [aA] at h4)
  refine bg (bT O (bg (bT O (bF (bF (bF (bF (bF (bF (bF (bg (iH O O (iH O O (fG O (qo (bQ O (Z (dX O O) (jG O (fun h5 => ?_) (fun h5 => ?_)))))))))))))))))))
  ·(try simp only [aA] at h5)
   exfalso; first | contradiction | omega
  ·(try simp only [aA] at h5)
   refine bF (bF (bF (iH O O (fG O (qo (bQ O (Z (lJ O) (fG O (bD O (fun h9 => ?_) (fun h9 => ?_))))))))))
   ·(try simp only [aA] at h9)
    refine aC (jR O O (dS O func211 (EO H hr hl) ?_))
    rintro _ OQ H7
    obtain ⟨s2, h2, hs2, hh2, hE2, hp2, hm2, ho2, H2⟩ := H7.ring
    refine bW (aK (aX (bQ O (dK O (bJ 63 dn O ay O (aJ (jP H2 ay O O O (by rw [nV hs2]; decide)) ?_))))))
    rintro _ QE H8
    rw [show (Value.int .i64 0) = .int .i64 ((0 : Nat) : Int) from rfl, pX hs2] at H8
    refine iJ (jM O (dL nP O ?_))
    exact ⟨O, V.yL hs2 hh2 hE2 hp2 hm2 ho2 H8⟩
   ·(try simp only [aA] at h9)
    exfalso; first | contradiction | omega
 ·(try simp only [aA] at h3)
  refine bF (bF (bF (bF (bF (iH O O (uZ O (aY (bQ O (Z (jd aj O) (Z (dY O O) (Yg O (fun h11 => ?_))))))))))))
  (try simp only [aA] at h11)
  refine bg (bT O (bg (bT O (bF (bF (bF (bF (bF (bF (bF (bg (iH O O (iH O O (fG O (qo (bQ O (Z (dX O O) (jG O (fun h12 => ?_) (fun h12 => ?_)))))))))))))))))))
  ·(try simp only [aA] at h12)
   refine bg (bT O (bg (Z (jd aj O) (bg (Z (dX O O) (iU O O (fG O (TN O (fun h13 => ?_)))))))))
   (try simp only [aA] at h13)
   refine bQ O (Z (lJ O) (fG O (bD O (fun h14 => ?_) (fun h14 => ?_))))
   ·(try simp only [aA] at h14)
    refine aC (jR O O (dS O func211 (EO H hr hl) ?_))
    rintro _ w26 H7
    obtain ⟨s2, h2, hs2, hh2, hE2, hp2, hm2, ho2, H2⟩ := H7.ring
    refine bW (aK (aX (bQ O (dK O (bJ 63 dn O ay O (aJ (jP H2 ay O O O (by rw [nV hs2]; decide)) ?_))))))
    rintro _ w27 H8
    rw [show (Value.int .i64 0) = .int .i64 ((0 : Nat) : Int) from rfl, pX hs2] at H8
    refine iJ (jM O (dL nP O ?_))
    exact ⟨O, V.yL hs2 hh2 hE2 hp2 hm2 ho2 H8⟩
   ·(try simp only [aA] at h14)
    exfalso; first | contradiction | omega
  ·(try simp only [aA] at h12)
   exfalso; first | contradiction | omega
theorem MG (H : V w0 w (dZ p E place • F)) (hr : jF w0 F .i32 v l) (hw : 0 < way ∧ way ≤ 2) (hl : l.length ≤ 1024) (hE0 : 0 < E.length) (hj : 1024 < l.length + (E.getD 0 []).length) :
    iE prog 199 #[.pointer (some ⟨p, 0, none⟩), .int .i64 way, v] w fun v' w' => v' = .int .i64 3 ∧ V w0 w' (dZ p E place • F) := by
  obtain ⟨s, h, hs, hh, hE, hp, hm, ho, H1⟩ := H.ring
  have hb := H1.get.2
  obtain ⟨a, c, hv, _, _, _⟩ := (hr w H.right).open
  subst hv
  have hm0 : (E.getD 0 []).length ≤ 1024 := hm _ (by rw [List.getD_eq_getElem?_getD, List.getElem?_eq_getElem hE0]; simp)
  refine zT func199 ntmps199 ?_
  refine jQ O (aN (bQ O (dS O func140 (kW _ hb Au) ?_)))
  rintro _ _ ⟨rfl, rfl⟩
  refine iJ (qo (gG (aN (bQ O (Z (fZ O O) (Yg O (fun h1 => ?_)))))))
  (try simp only [aA] at h1)
  refine bg (bT O (bg (Z (dY O O) (iH O O (iJ (TN O (fun h2 => ?_)))))))
  (try simp only [aA] at h2)
  refine gG (bQ O (Z (ig O O) (xsA O (fun h3 => ?_))))
  (try simp only [aA] at h3)
  refine bg (bT O (bg (dK O (bg (bJ 62 dn O ay O (bg (fM aH O hb (oL hs) (bg ?_))))))))
  refine Z (Ef (dY O O) (by first | (rw [decide_eq_true_eq]; omega) | (rw [decide_eq_false_iff_not]; omega) | (rw [beq_iff_eq]; omega) | (rw [beq_eq_false_iff_ne]; omega) | (rw [bne_iff_ne]; omega) | (rw [bne_eq_false_iff_eq]; omega) | (simp; done) | (simp; omega))) ?_
  refine iU O O (uZ O (aY (bQ O (Z (jd aj O) (Z (dY O O) (Yg O (fun h4 => ?_)))))))
  (try simp only [aA] at h4)
  refine bg (bT O (bg (bT O (bg (bT O (bg (Z (jd aj O) (bg (bT O (bg (dS O func141 (xG (k := 0) hs hh (by omega) hb) ?_)))))))))))
  rintro _ w2 ⟨rfl, hD⟩
  obtain ⟨a0, c0, e0, _, _, _⟩ := ((H1.y7 hD).right.Dw (i := 0) hE0).open
  rw [e0]
  refine bg (Z (jd aj O) (bg (Z (iV O O (by omega)) (bg ?_))))
  refine Z (Ef (dY O O) (by first | (rw [decide_eq_true_eq]; omega) | (rw [decide_eq_false_iff_not]; omega) | (rw [beq_iff_eq]; omega) | (rw [beq_eq_false_iff_ne]; omega) | (rw [bne_iff_ne]; omega) | (rw [bne_eq_false_iff_eq]; omega) | (simp; done) | (simp; omega))) ?_
  refine bg (iU O O (iH O O (fG O (CP (jM O (aT (aB (dL nP O ?_))))))))
  exact ⟨O, H.y7 hD⟩
theorem J7 (H : V w0 w (dZ p E place • F)) (hr : jF w0 F .i32 v l) (hw : 0 < way ∧ way ≤ 2) (hE0 : 0 < E.length) (hj : l.length + (E.getD 0 []).length ≤ 1024) :
    iE prog 199 #[.pointer (some ⟨p, 0, none⟩), .int .i64 way, v] w fun v' w' => v' = .int .i64 0 ∧ V w0 w' (dZ p ((if way = 1 then E.getD 0 [] ++ l else l ++ E.getD 0 []) :: E.tail) 0 • F) := by
  obtain ⟨s, h, hs, hh, hE, hp, hm, ho, H⟩ := H.ring
  have hb := H.get.2
  obtain ⟨a, c, hv, _, _, _⟩ := (hr w H.right.right).open
  subst hv
  have hm0 : (E.getD 0 []).length ≤ 1024 := hm _ (by rw [List.getD_eq_getElem?_getD, List.getElem?_eq_getElem hE0]; simp)
  have ag1 := NU (h := h) (n := E.length) (p := place) hs (i := (h + 0) % 60) (by omega)
  refine zT func199 ntmps199 ?_
  refine jQ O (aN (bQ O (dS O func140 (kW _ hb Au) ?_)))
  rintro _ _ ⟨rfl, rfl⟩
  refine iJ (qo (gG (aN (bQ O (Z (fZ O O) (Yg O (fun h1 => ?_)))))))
  (try simp only [aA] at h1)
  refine bg (bT O (bg (Z (dY O O) (iH O O (iJ (TN O (fun h2 => ?_)))))))
  (try simp only [aA] at h2)
  refine gG (bQ O (Z (ig O O) (xsA O (fun h3 => ?_))))
  (try simp only [aA] at h3)
  refine bg (bT O (bg (dK O (bg (bJ 62 dn O ay O (bg (fM aH O hb (oL hs) (bg ?_))))))))
  refine Z (Ef (dY O O) (by first | (rw [decide_eq_true_eq]; omega) | (rw [decide_eq_false_iff_not]; omega) | (rw [beq_iff_eq]; omega) | (rw [beq_eq_false_iff_ne]; omega) | (rw [bne_iff_ne]; omega) | (rw [bne_eq_false_iff_eq]; omega) | (simp; done) | (simp; omega))) ?_
  refine iU O O (uZ O (aY (bQ O (Z (jd aj O) (Z (dY O O) (Yg O (fun h4 => ?_)))))))
  (try simp only [aA] at h4)
  refine bg (bT O (bg (bT O (bg (bT O (bg (Z (jd aj O) (bg (bT O (bg (dS O func141 (xG (k := 0) hs hh (by omega) hb) ?_)))))))))))
  rintro _ w2 ⟨rfl, hD⟩
  obtain ⟨a0, c0, e0, _, _, _⟩ := ((H.y7 hD).right.Dw (i := 0) hE0).open
  rw [e0]
  have pR := H.y7 hD
  refine bg (Z (jd aj O) (bg (Z (iV O O (by omega)) (bg ?_))))
  refine Z (NI (dY O O) (by first | (rw [decide_eq_true_eq]; omega) | (rw [decide_eq_false_iff_not]; omega) | (rw [beq_iff_eq]; omega) | (rw [beq_eq_false_iff_ne]; omega) | (rw [bne_iff_ne]; omega) | (rw [bne_eq_false_iff_eq]; omega) | (simp; done) | (simp; omega))) ?_
  refine bg (iU O O (iH O O (fG O (qo (bQ O (Z (dX O O) (Yg O (fun h5 => ?_))))))))
  (try simp only [aA] at h5)
  refine bF (bF (bF (iH O O (fG O (qo (bQ O (Z (lJ O) (fG O (TN O (fun h6 => ?_))))))))))
  (try simp only [aA] at h6)
  refine bQ O (Z (dX O O) (fG O (bD O (fun h7 => ?_) (fun h7 => ?_))))
  · (try simp only [aA] at h7)
    have hw1 : way = 1 := by omega
    refine qM (n := 14) [0, 1, 2, 3, 4, 5, 6, 7, 8, 9, 10, 11, 12, 13] (fun W => W.heap[p]? = some (.cells (dN s h E.length place) 207 (0, 0))) (by kernel_rfl) (by kernel_rfl) O ?_
    have hS0 : (fun W => W.heap[p]? = some (.cells (dN s h E.length place) 207 (0, 0))) (w2.drew) := pR.get.2
    have QG := pR.drew
    refine iQ 0 O hS0 O (iQ 1 O hS0 O (jU 2 O hS0 O (gU 3 O hS0 61 dn O ay O (jO 4 O hS0 (fun W hW => jV aH O hW (A8 hs)) (iQ 5 O hS0 O (iQ 7 O hS0 O (jU 10 O hS0 O (gU 11 O hS0 1 dn O sizeOf205 O (mZ 6 O (xq O func141 (xG (k := 0) hs hh (by omega) QG.get.2)) ?_)))))))))
    rintro _ w3 ⟨rfl, hD2⟩
    have F9 := QG.y7 hD2
    have hS3 : (fun W => W.heap[p]? = some (.cells (dN s h E.length place) 207 (0, 0))) w3 := F9.get.2
    refine Gl hS3 ?_
    refine mZ 8 O (Vt (vs := [s.getD ((h + 0) % 60) undef, .slice a l.length c]) F9 iW dh zeroValue22 O O O (by decide) (by rw [e0]; simp [Value.oneCell'])) ?_
    rintro _ w4 ⟨b2, rfl, H4⟩
    have hS4 : (fun W => W.heap[p]? = some (.cells (dN s h E.length place) 207 (0, 0))) w4 := H4.swap.get.2
    refine Gl hS4 ?_
    refine mZ 9 O (xq O func172 (Dv H4 (fun W HW => HW.right.right.Dw (i := 0) hE0) hr.under.under.under (by omega))) ?_
    rintro u w5 H5
    have vO := H5.LZ
    have hS5 : (fun W => W.heap[p]? = some (.cells (dN s h E.length place) 207 (0, 0))) w5 := vO.get.2
    refine Gl hS5 ?_
    refine jC 12 O hS5 (fun _ => Aa underlying205 dh O O (by omega)) ?_
    refine gB 13 O (by kernel_rfl) (jP vO dh O O H5.aS.one (by rw [nV hs]; omega)) ?_
    rintro _ w6 Jv
    rw [show (1 + ((h : Int)).toNat * 1) = 1 + h from by omega, Aw hs hh] at Jv
    have hs' : (s.set h u).length = 60 := by simp [hs]
    have ho' := OZ ho (u := u) (i := h) H5.aS.one
    refine JO (by kernel_rfl) ?_
    refine qV (aK (aX (bQ O (dK O (bJ 63 dn O ay O (aJ (jP Jv ay O O O (by rw [nV hs']; decide)) ?_))))))
    rintro _ w7 CQ
    rw [show (Value.int .i64 0) = .int .i64 ((0 : Nat) : Int) from rfl, pX hs'] at CQ
    have Qy := CQ.swap.lN
    refine iJ (jM O (dL nP O ?_))
    refine ⟨O, V.yL hs' hh (by rw [xA hE0]; omega) (.inr O) ?_ ho' ?_⟩
    · intro e he
      rcases List.mem_cons.1 he with rfl | he
      · first | (rw [if_pos hw1, List.length_append]; omega) | (rw [if_neg (by omega), List.length_append]; omega)
      · exact hm e (List.mem_of_mem_tail he)
    · rw [xA hE0]
      first | rw [if_pos hw1] | rw [if_neg (by omega)]
      exact (Qy.r4.swap.F7 (rO (fun I a b => IW hs hh hE hE0 b a) _)).LZ.right.swap
  · (try simp only [aA] at h7)
    have hw2 : way = 2 := by omega
    refine qM (n := 14) [0, 1, 2, 3, 4, 5, 6, 7, 8, 9, 10, 11, 12, 13] (fun W => W.heap[p]? = some (.cells (dN s h E.length place) 207 (0, 0))) (by kernel_rfl) (by kernel_rfl) O ?_
    have hS0 : (fun W => W.heap[p]? = some (.cells (dN s h E.length place) 207 (0, 0))) (w2.drew) := pR.get.2
    have H6d := pR.drew
    refine iQ 0 O hS0 O (iQ 1 O hS0 O (jU 2 O hS0 O (gU 3 O hS0 61 dn O ay O (jO 4 O hS0 (fun W hW => jV aH O hW (A8 hs)) (iQ 5 O hS0 O (iQ 6 O hS0 O (jU 10 O hS0 O (gU 11 O hS0 1 dn O sizeOf205 O (mZ 7 O (xq O func141 (xG (k := 0) hs hh (by omega) H6d.get.2)) ?_)))))))))
    rintro _ w8 ⟨rfl, hD2⟩
    have F9 := H6d.y7 hD2
    have hS8 : (fun W => W.heap[p]? = some (.cells (dN s h E.length place) 207 (0, 0))) w8 := F9.get.2
    refine Gl hS8 ?_
    refine mZ 8 O (Vt (vs := [.slice a l.length c, s.getD ((h + 0) % 60) undef]) F9 iW dh zeroValue22 O O O (by decide) (by rw [e0]; simp [Value.oneCell'])) ?_
    rintro _ w9 ⟨b2, rfl, H9⟩
    have hS9 : (fun W => W.heap[p]? = some (.cells (dN s h E.length place) 207 (0, 0))) w9 := H9.swap.get.2
    refine Gl hS9 ?_
    refine mZ 9 O (xq O func172 (Dv H9 hr.under.under.under (fun W HW => HW.right.right.Dw (i := 0) hE0) (by omega))) ?_
    rintro u w10 pR
    have vO := pR.LZ
    have aei : (fun W => W.heap[p]? = some (.cells (dN s h E.length place) 207 (0, 0))) w10 := vO.get.2
    refine Gl aei ?_
    refine jC 12 O aei (fun _ => Aa underlying205 dh O O (by omega)) ?_
    refine gB 13 O (by kernel_rfl) (jP vO dh O O pR.aS.one (by rw [nV hs]; omega)) ?_
    rintro _ Fv Jv
    rw [show (1 + ((h : Int)).toNat * 1) = 1 + h from by omega, Aw hs hh] at Jv
    have hs' : (s.set h u).length = 60 := by simp [hs]
    have ho' := OZ ho (u := u) (i := h) pR.aS.one
    refine JO (by kernel_rfl) ?_
    refine qV (aK (aX (bQ O (dK O (bJ 63 dn O ay O (aJ (jP Jv ay O O O (by rw [nV hs']; decide)) ?_))))))
    rintro _ w12 CQ
    rw [show (Value.int .i64 0) = .int .i64 ((0 : Nat) : Int) from rfl, pX hs'] at CQ
    have Qy := CQ.swap.lN
    refine iJ (jM O (dL nP O ?_))
    refine ⟨O, V.yL hs' hh (by rw [xA hE0]; omega) (.inr O) ?_ ho' ?_⟩
    · intro e he
      rcases List.mem_cons.1 he with rfl | he
      · first | (rw [if_pos hw1, List.length_append]; omega) | (rw [if_neg (by omega), List.length_append]; omega)
      · exact hm e (List.mem_of_mem_tail he)
    · rw [xA hE0]
      first | rw [if_pos hw1] | rw [if_neg (by omega)]
      exact (Qy.r4.swap.F7 (rO (fun I a b => IW hs hh hE hE0 b a) _)).LZ.right.swap
end
def EG (m place : Nat) (n : Int) : Nat := (((place : Int) + n) % (m : Int)).toNat
theorem aa7 {m place : Nat} {n : Int} (h : 0 < m) : EG m place n < m := by
  unfold EG
  have h1 := Int.emod_nonneg ((place : Int) + n) (show (m : Int) ≠ 0 by omega)
  have h2 := Int.emod_lt_of_pos ((place : Int) + n) (show (0 : Int) < m by omega)
  omega
theorem O4 (a : Int) {m : Int} (h : 0 < m) : -m < a.tmod m ∧ a.tmod m < m := by
  have h2 := Int.tmod_lt_of_pos a h
  have h3 := Int.tmod_lt_of_pos (-a) h
  rw [Int.neg_tmod] at h3
  omega
theorem NV (a m : Int) : a.tmod m % m = a % m := by
  rw [Int.tmod_def]
  exact Int.sub_mul_emod_self_left a m (a.tdiv m)
theorem acS (m place : Nat) (n : Int) (h : 0 < m) : (((place : Int) + n.tmod m).tmod m + m).tmod m = (EG m place n : Int) := by
  have h1 := O4 ((place : Int) + n.tmod m) (show (0 : Int) < m by omega)
  have h2 := Int.emod_nonneg ((place : Int) + n) (show (m : Int) ≠ 0 by omega)
  unfold EG
  rw [Int.toNat_of_nonneg h2, Int.tmod_eq_emod_of_nonneg (by omega), Int.add_emod_right, NV, Int.add_emod, NV, ← Int.add_emod]
section
variable {w0 w : World} {F : HP} {p place : Nat} {E : List (List Int)} {v : Value} {l : List Int} {way : Int}
theorem MH (H : V w0 w (dZ p E place • F)) (hr : jF w0 F .i32 v l) :
    iE prog 199 #[.pointer (some ⟨p, 0, none⟩), .int .i64 way, v] w fun v' w' => v' = .int .i64 (Dx E place way l).1 ∧ V w0 w' (dZ p (Dx E place way l).2.1 (Dx E place way l).2.2 • F) := by
  unfold Dx
  by_cases h1 : way < 0 ∨ 2 < way
  · simp only [h1, if_true]; exact MC H hr h1
  · simp only [h1, if_false]
    by_cases h2 : 1024 < l.length
    · simp only [h2, if_true]; exact J6 H hr (by omega) h2
    · simp only [h2, if_false]
      by_cases h3 : way ≠ 0 ∧ 0 < E.length
      · rw [if_pos h3]
        by_cases h4 : 1024 < l.length + (E.getD 0 []).length
        · rw [if_pos h4]; exact MG H hr (by omega) (by omega) h3.2 h4
        · rw [if_neg h4]; exact J7 H hr (by omega) h3.2 (by omega)
      · rw [if_neg h3]
        by_cases h5 : way = 0 ∧ l.length = 0
        · rw [if_pos h5]; obtain ⟨rfl, h6⟩ := h5; exact Gs H hr h6
        · rw [if_neg h5]; exact MF H hr (by omega) (by omega) (by omega) h5
theorem Ba {n : Int} (H : V w0 w (dZ p [] place • F)) :
    iE prog 87 #[.pointer (some ⟨p, 0, none⟩), .int .i64 n] w fun v' w' => v' = .tuple #[.slice none 0 0, .int .i64 6] ∧ V w0 w' (dZ p [] place • F) := by
  obtain ⟨s, h, hs, hh, hE, hp, hm, ho, H1⟩ := H.ring
  have hb := H1.get.2
  refine oV func87 ntmps87 ?_
  refine iR (iK O (uZ O (aY (bQ O (dS O func140 (kW _ hb Au) ?_)))))
  rintro _ _ ⟨rfl, rfl⟩
  refine fG O (qo (bQ O (dK O (bJ 62 dn O ay O (fM aH O hb (oL hs) (Z (dX O O) (fG O (wcA O (fun h1 => ?_)))))))))
  (try simp only [aA] at h1)
  refine iR (iK O (fB O (aT (aB (NR results87 O O ?_)))))
  exact ⟨O, H⟩
theorem CS {n : Int} (H : V w0 w (dZ p E place • F)) (h0 : 0 < E.length) :
  iE prog 87 #[.pointer (some ⟨p, 0, none⟩), .int .i64 n] w fun v' w' => ∃ u, v' = .tuple #[u, .int .i64 0] ∧
   V w0 w' (ku 21 .i32 u (E.getD (EG E.length place n) []) • dZ p E (EG E.length place n) • F) := by
 obtain ⟨s, h, hs, hh, hE, hp, hm, ho, H⟩ := H.ring
 have hb := H.get.2
 have hlt := aa7 (place := place) (n := n) h0
 have afG := acS E.length place n h0
 have hb1 := O4 n (show (0 : Int) < E.length by omega)
 have hb2 := O4 ((place : Int) + n.tmod E.length) (show (0 : Int) < E.length by omega)
 refine oV func87 ntmps87 ?_
 refine iR (iK O (uZ O (aY (bQ O (dS O func140 (kW _ hb Au) ?_)))))
 rintro _ _ ⟨rfl, rfl⟩
 refine fG O (qo (bQ O (dK O (bJ 62 dn O ay O (fM aH O hb (oL hs) (Z (dX O O) (fG O (TN O (fun h1 => ?_)))))))))
 (try simp only [aA] at h1)
 refine cZ (aK (aX (aN ?_)))
 refine qM (n := 30) [0, 1, 2, 3, 4, 5, 6, 7, 8, 9, 10, 11, 12, 13, 14, 15, 16, 17, 18, 19, 20, 21, 22, 23, 24, 25, 26, 27, 28, 29] (fun W => W.heap = w.heap) (by kernel_rfl) (by kernel_rfl) O ?_
 have hS0 : (fun W => W.heap = w.heap) (w.drew) := rfl
 have H5d := H.drew
 refine iQ 0 O hS0 O (iQ 1 O hS0 O (jU 2 O hS0 O (gU 3 O hS0 63 dn O ay O ?_)))
 refine jO 4 O hS0 (fun W hW => jV aH O (by rw [hW]; exact hb) (J5 hs)) ?_
 refine iQ 5 O hS0 O (iQ 6 O hS0 O (jU 7 O hS0 O (gU 8 O hS0 62 dn O ay O ?_)))
 refine jO 9 O hS0 (fun W hW => jV aH O (by rw [hW]; exact hb) (oL hs)) ?_
 refine jC 10 O hS0 (fun _ => TB O O (by omega)) (jC 11 O hS0 (fun _ => fJ O O (by omega)) (iQ 12 O hS0 O (jU 13 O hS0 O (gU 14 O hS0 62 dn O ay O ?_))))
 refine jO 15 O hS0 (fun W hW => jV aH O (by rw [hW]; exact hb) (oL hs)) ?_
 refine jC 16 O hS0 (fun _ => TB O O (by omega)) (iQ 17 O hS0 O (jU 18 O hS0 O (gU 19 O hS0 62 dn O ay O ?_)))
 refine jO 20 O hS0 (fun W hW => jV aH O (by rw [hW]; exact hb) (oL hs)) ?_
 refine jC 21 O hS0 (fun _ => fJ O O (by omega)) (iQ 22 O hS0 O (jU 23 O hS0 O (gU 24 O hS0 62 dn O ay O ?_)))
 refine jO 25 O hS0 (fun W hW => jV aH O (by rw [hW]; exact hb) (oL hs)) ?_
 refine jC 26 O hS0 (fun _ => TB O O (by omega)) (jU 27 O hS0 O (gU 28 O hS0 63 dn O ay O ?_))
 refine gB 29 O (by kernel_rfl) (jP H5d ay O O O (by rw [nV hs]; decide)) ?_
 rintro _ w2 H2
 rw [afG, pX hs] at H2
 refine JO (by kernel_rfl) ?_
 refine qV (aX (bQ O (nG O O (bJ 63 dn O ay O (fM aH O H2.get.2 (J5 hs) (dS O func141 (xG hs hh (by omega) H2.get.2) ?_))))))
 rintro _ w3 ⟨rfl, hD2⟩
 have H3 := H2.y7 hD2
 refine TA (xZ (zh O func71 O O) (oK H3 (fun W HW => HW.right.Dw (i := EG E.length place n) hlt) (by have := hm (E.getD (EG E.length place n) []) (by rw [List.getD_eq_getElem?_getD, List.getElem?_eq_getElem hlt]; simp); omega))) (oz O) ?_
 rintro u w4 H4
 refine iK O (fB O (NR results87 O O ?_))
 exact ⟨u, O, (V.yL hs hh hE (.inl hlt) hm ho H4.d3).swap⟩
theorem J8 (H : V w0 w (dZ p [] place • F)) :
    iE prog 205 #[.pointer (some ⟨p, 0, none⟩)] w fun v' w' => v' = .tuple #[.slice none 0 0, .int .i64 6] ∧ V w0 w' (dZ p [] place • F) := by
  refine iZ func205 ntmps205 ?_
  refine iR (iK O (fG O (bQ O (dS O func87 (Ba H) ?_))))
  rintro _ w1 ⟨rfl, H1⟩
  refine uH O O (uH O O (iK O (fB O (NR results205 O O ?_))))
  exact ⟨O, H1⟩
theorem WX {m place : Nat} (h : place < m) : EG m place 0 = place := by
  unfold EG
  rw [Int.add_zero, Int.emod_eq_of_lt (by omega) (by omega)]
  omega
theorem MI (H : V w0 w (dZ p E place • F)) (h0 : 0 < E.length) :
    iE prog 205 #[.pointer (some ⟨p, 0, none⟩)] w fun v' w' => ∃ u, v' = .tuple #[u, .int .i64 0] ∧
      V w0 w' (ku 21 .i32 u (E.getD place []) • dZ p E place • F) := by
  obtain ⟨s, h, hs, hh, hE, hp, hm, ho, H1⟩ := H.ring
  have hpl : EG E.length place 0 = place := WX (by omega)
  refine iZ func205 ntmps205 ?_
  refine iR (iK O (fG O (bQ O (dS O func87 (CS H h0) ?_))))
  rintro _ w1 ⟨u, rfl, H1⟩
  refine uH O O (uH O O (iK O (fB O (NR results205 O O ?_))))
  rw [hpl] at H1; exact ⟨u, rfl, H1⟩
theorem V.WY {s : List Value} {h : Nat} (H : V w0 w (BK s h E • F)) : V w0 w (BK s h E • BK s h E • F) := H.vF
theorem WZ {s : List Value} {h n p : Nat} (ho : ∀ v ∈ s, v.oneCell' = true) : ∀ v ∈ (dN s h n p).toList, v.oneCell' = true := by
  intro v hv
  simp [dN] at hv
  rcases hv with rfl | hv | rfl | rfl | rfl <;> first | rfl | exact ho v hv
theorem Dy (H : V w0 w (dZ p E place • F)) :
    iE prog 85 #[.pointer (some ⟨p, 0, none⟩)] w fun v' w' => ∃ q, v' = .pointer (some ⟨q, 0, none⟩) ∧ V w0 w' (dZ q E place • dZ p E place • F) := by
  obtain ⟨s, h, hs, hh, hE, hp, hm, ho, H⟩ := H.ring
  have hb := H.get.2
  refine iZ func85 ntmps85 ?_
  refine jQ O (aN (bQ O (dS O func140 (kW _ hb Au) ?_)))
  rintro _ _ ⟨rfl, rfl⟩
  refine iJ (qo (gG (bQ O (dK O (Z (dM dn O sizeOf207 (nV hs) O hb) (kD (Ac H zeroValue207) ?_))))))
  rintro _ w2 ⟨b2, rfl, H2⟩
  refine aJ (gQ H2 sizeOf207 (nV hs) O O O (WZ ho)) ?_
  rintro _ w3 H3
  refine iJ (jM O (dL results85 O ?_))
  exact ⟨_, O, V.yL hs hh hE hp hm ho (V.yL hs hh hE hp hm ho (H3.LZ.WY.r4)).swap.LZ⟩
end
section
variable {w0 w : World} {F : HP} {p place : Nat} {E : List (List Int)}
theorem J9 (H : V w0 w (dZ p E place • F)) : E.length ≤ 60 ∧ (place < E.length ∨ place = 0) ∧ ∀ e ∈ E, e.length ≤ 1024 := by
  obtain ⟨s, h, hs, hh, hE, hpl, hE2, hs1, H1⟩ := H.ring
  exact ⟨hE, hpl, hE2⟩
theorem MJ (H : V w0 w (dZ p E place • F)) : iE prog 205 #[.pointer (some ⟨p, 0, none⟩)] w fun v w' => ∃ u, v = .tuple #[u, .int .i64 (if E.length = 0 then 6 else 0)] ∧ V w0 w' (ku 21 .i32 u (E.getD place []) • dZ p E place • F) := by
  by_cases h0 : E.length = 0
  · obtain rfl := List.eq_nil_of_length_eq_zero h0
    exact (J8 H).mono fun v w' h => ⟨_, h.1, h.2.jk none⟩
  · rw [if_neg h0]
    exact (MI H (by omega)).mono fun v w' h => h
theorem Jk {n : Int} (H : V w0 w (dZ p E place • F)) : iE prog 87 #[.pointer (some ⟨p, 0, none⟩), .int .i64 n] w fun v w' => ∃ u, v = .tuple #[u, .int .i64 (if E.length = 0 then 6 else 0)] ∧
    V w0 w' (ku 21 .i32 u (if E.length = 0 then [] else E.getD (EG E.length place n) []) • dZ p E (if E.length = 0 then place else EG E.length place n) • F) := by
  by_cases h0 : E.length = 0
  · obtain rfl := List.eq_nil_of_length_eq_zero h0
    simp only [List.length_nil, if_true]
    exact (Ba H).mono fun v w' h => ⟨_, h.1, h.2.jk none⟩
  · simp only [if_neg h0]
    exact (CS H (by omega)).mono fun v w' h => h
end
end Go.Proofs.YtpdeedplgmbopaaGreatDoor
end
section
namespace Go.Proofs.YtpdeedplgmbopaaGreatDoor
open Go.RowKit
def CU (I : Hp) (k : IntKind) (vs : List Value) (ls : List (List Int)) : Prop := vs.length = ls.length ∧ ∀ j, j < ls.length → ED I k (vs.getD j undef) (ls.getD j [])
def Dz (k : IntKind) (vs : List Value) (ls : List (List Int)) : HP := know (fun I => CU I k vs ls) fun _ _ hl h => ⟨h.1, fun j hj => (h.2 j hj).mono hl⟩
def LL (e : TypeId) (k : IntKind) (v : Value) (ls : List (List Int)) : HP := wE fun vs => Row e 1 v ls.length vs • Dz k vs ls
theorem xB {α : Type _} {l m : List α} {j : Nat} {d : α} (h : j < l.length) : (l ++ m).getD j d = l.getD j d := by simp [List.getD_eq_getElem?_getD, List.getElem?_append_left h]
theorem vS {α : Type _} {l m : List α} {j : Nat} {d : α} (h : l.length ≤ j) : (l ++ m).getD j d = m.getD (j - l.length) d := by simp [List.getD_eq_getElem?_getD, List.getElem?_append_right h]
theorem NW {α : Type _} {l : List α} {i j : Nat} {d : α} : (l.drop i).getD j d = l.getD (i + j) d := by simp [List.getD_eq_getElem?_getD]
theorem HY {α : Type _} {l : List α} {i j : Nat} {d : α} (h : j < i) : (l.take i).getD j d = l.getD j d := by simp [List.getD_eq_getElem?_getD, List.getElem?_take, h]
theorem yX {α : Type _} {l : List α} {j : Nat} {d : α} (h : j < l.length) : l.getD j d ∈ l := by rw [List.getD_eq_getElem?_getD, List.getElem?_eq_getElem h]; exact List.getElem_mem h
theorem CU.app {I : Hp} {k : IntKind} {vs us : List Value} {ls ms : List (List Int)} (h : CU I k vs ls) (g : CU I k us ms) : CU I k (vs ++ us) (ls ++ ms) := by
  refine ⟨by simp [h.1, g.1], fun j hj => ?_⟩
  by_cases hl : j < ls.length
  · rw [xB (by rw [h.1]; exact hl), xB hl]; exact h.2 j hl
  · have hj' : j - ls.length < ms.length := by simp at hj; omega
    rw [vS (by rw [h.1]; omega), vS (by omega), h.1]; exact g.2 _ hj'
theorem CU.drop {I : Hp} {k : IntKind} {vs : List Value} {ls : List (List Int)} (h : CU I k vs ls) (i : Nat) : CU I k (vs.drop i) (ls.drop i) := by
  refine ⟨by simp [h.1], fun j hj => ?_⟩
  rw [NW, NW]
  exact h.2 _ (by simp at hj; omega)
theorem CU.take {I : Hp} {k : IntKind} {vs : List Value} {ls : List (List Int)} (h : CU I k vs ls) (i : Nat) : CU I k (vs.take i) (ls.take i) := by
  refine ⟨by simp [h.1], fun j hj => ?_⟩
  simp at hj
  rw [HY (by omega), HY (by omega)]
  exact h.2 _ (by omega)
theorem ED.one {I : Hp} {k : IntKind} {v : Value} {l : List Int} (h : ED I k v l) : CU I k [v] [l] := ⟨rfl, fun j hj => by
  obtain rfl : j = 0 := by simp at hj; omega
  exact h⟩
theorem ED.YM {I : Hp} {k : IntKind} {v : Value} {l : List Int} (h : ED I k v l) : v.oneCell' = true := by obtain ⟨a, c, rfl, _⟩ := h; rfl
section
variable {w0 w : World} {F : HP} {e : TypeId} {k : IntKind} {v : Value} {vs us : List Value} {ls ms : List (List Int)} {l : List Int}
theorem V.aa8 (H : V w0 w (Dz k vs ls • F)) {j : Nat} (hj : j < ls.length) : gJ w k (vs.getD j undef) (ls.getD j []) := let ⟨I, h, hI⟩ := H.uF; (h.2 j hj).rd hI
theorem V.YN (H : V w0 w (Dz k vs ls • F)) : vs.length = ls.length := let ⟨I, h, hI⟩ := H.uF; h.1
theorem V.QH (H : V w0 w F) : V w0 w (Dz k [] [] • F) := H.yJ fun I => ⟨rfl, fun j hj => by simp at hj⟩
theorem V.W9 (H : V w0 w (Dz k vs ls • oP k v l • F)) : V w0 w (Dz k (vs ++ [v]) (ls ++ [l]) • F) := H.F7 (rO (fun I h g => h.app g.one) F)
theorem V.ll (H : V w0 w (LL e k v ls • F)) : ∃ vs, V w0 w (Row e 1 v ls.length vs • Dz k vs ls • F) := let ⟨vs, h⟩ := H.nX; ⟨vs, h.flat⟩
theorem V.ab8 (H : V w0 w (Row e 1 v ls.length vs • Dz k vs ls • F)) : V w0 w (LL e k v ls • F) := V.jw vs H.deep
theorem V.YO {n : Nat} (H : V w0 w (Row e 1 v n vs • Dz k vs ls • F)) : V w0 w (LL e k v ls • F) := by
  have h1 := H.yI
  have h2 := H.swap.YN
  obtain rfl : n = ls.length := by omega
  exact H.ab8
theorem Rd.aej {n : Nat} {xs : List Value} (hr : Rd w 1 v n xs) {i : Nat} (h : i ≤ n) : Rd w 1 (vJ 1 0 i v) i (xs.take i) := by
  have h1 := hr.cut (Nat.zero_le i) h
  simpa using h1
end
theorem YP {α : Type _} {enc : α → List Value} {sz : Nat} (he : ∀ a, (enc a).length = sz) (l : List α) : (l.flatMap enc).length = l.length * sz := by
  induction l with
  | nil => simp
  | cons a l ih => simp [he, ih, Nat.add_mul, Nat.add_comm]
theorem wK {α : Type _} {enc : α → List Value} {sz : Nat} (he : ∀ a, (enc a).length = sz) {l : List α} {k : Nat} (hk : k < l.length) (d : α) : ((l.flatMap enc).drop (k * sz)).take sz = enc (l.getD k d) := by
  have h1 : l = l.take k ++ l.getD k d :: l.drop (k + 1) := by
    rw [List.getD_eq_getElem?_getD, List.getElem?_eq_getElem hk]
    simp
  have h2 : ((l.take k).flatMap enc).length = k * sz := by rw [YP he, List.length_take, Nat.min_eq_left (by omega)]
  conv => lhs; rw [h1]
  rw [List.flatMap_append, List.drop_append, h2]
  simp [h2, List.take_append, he]
theorem uS {P : Program} {L : List (Nat × Value)} {w : World} {ty : TypeId} {x : Operand} {t : TypeId} {d : TypeDesc} {b o n c sz n' k : Nat} {xs ys : List Value} (hr : Rd w sz (.slice (some ⟨b, o, none⟩) n c) n' xs) (hk : k < n') (hu : P.underlying t = some d) (hd : OJ d = true) (hs : ∀ w, (sizeOf t).run P w = .ok sz w)
    (hx : ev L x = some (.pointer (some ⟨b, o + (k : Int).toNat * sz, none⟩))) (hy : (xs.drop (k * sz)).take sz = ys) (hl : ys.length = sz) : Val P L (.load t x) ty w (.agg ys.toArray) w :=
  BI (by rw [hu]; rfl) (NM hu hd) hs hl hx (fun j u hj => by
    have hjl : j < sz := by rw [← hl]; exact (List.getElem?_eq_some_iff.1 hj).1
    rw [hr.atS hk hjl, List.getD_eq_getElem?_getD]
    rw [← hy, List.getElem?_take, if_pos hjl, List.getElem?_drop] at hj
    rw [hj]; rfl)
end Go.Proofs.YtpdeedplgmbopaaGreatDoor
end
section
namespace Go.Proofs.YtpdeedplgmbopaaGreatDoor
open Go.RowKit
open _root_.Go.Proofs.Tryz
section
variable {w0 w : World} {F : HP} {v d s z d2 z2 u1 u2 u3 : Value} {L dl il dl2 il2 l1 l2 l3 : List Int} {a a2 : Int}
def afH (L : List Int) (a : Int) (dl : List Int) : Bool := decide (0 ≤ a ∧ a + dl.length ≤ L.length) && ((L.drop a.toNat).take dl.length == dl)
def uE (L : List Int) (a : Int) (dl il : List Int) : Int := if afH L a dl then (if 1024 < (L.length : Int) - dl.length + il.length then 3 else 0) else 1
def uL (L : List Int) (a : Int) (dl il : List Int) : List Int := if uE L a dl il = 0 then L.take a.toNat ++ il ++ L.drop (a.toNat + dl.length) else []
abbrev edV (a : Int) (d z : Value) : Value := .agg #[.int .i64 a, d, z]
theorem yM (H : V w0 w F) (hd : jF w0 F .i32 d dl) (hi : jF w0 F .i32 z il) (b2 : dl.length ≤ 35184372087808) (b3 : il.length ≤ 35184372087808) :
  iE prog 179 #[edV a d z] w fun v' w' => ∃ d' s', v' = edV a d' s' ∧ V w0 w' (ku 21 .i32 d' dl • ku 21 .i32 s' il • F) := by
 refine iZ func179 ntmps179 ?_
 refine iR (kD (jL (l := [_, _, _]) H O O) ?_)
 rintro _ w1 ⟨b1, rfl, H1⟩
 refine kD (iC (l := [_, _, _]) H1 dQ O) ?_
 rintro _ w2 ⟨b2, rfl, H2⟩
 refine qQ ?_
 have YQ := H2.drew
 have Bc := V.kp (YQ.f2.f2)
 refine yH [1, 3, 6] Bc O (gU 0 O Bc 0 bf O ay O (jO 1 O Bc (fun W hW => jV aH O ((Kp.h hW).f2).get.2 O) (gU 2 O Bc 1 bf O dh O (jO 3 O Bc (fun W hW => jV aj O ((Kp.h hW).f2).get.2 O) (gU 5 O Bc 2 bf O dh O (jO 6 O Bc (fun W hW => jV aj O ((Kp.h hW).f2).get.2 O) (mZ 4 O (xq O func71 (oK YQ (fun W HW => hd _ (HW.right.right)) (by omega))) ?_)))))))
 rintro u3 w3 H3
 have Az := V.kp (H3.f3.f3.f3)
 refine eF Az (fun W hW => (Kp.h hW).right.f2.f2) ?_
 refine mZ 7 O (xq O func71 (oK H3 (fun W HW => hi _ (HW.right.right.right)) (by omega))) ?_
 rintro u4 w4 H4
 have zq := V.kp (H4.f4.f4.f4.f4)
 refine eF zq (fun W hW => (Kp.h hW).right.f3.f3.f3) ?_
 obtain ⟨au3, cu3, eu3, -⟩ := gJ.open ((H4.f2).aS)
 subst eu3
 obtain ⟨au4, cu4, eu4, -⟩ := gJ.open ((H4).aS)
 subst eu4
 refine jC 8 O zq (fun _ => mJ (pl := #[(0, 1), (1, 1), (2, 1)]) (#[_, _, _]) bf dQ (fun w => by kernel_rfl) O (O)) ?_
 refine gB 9 O (by kernel_rfl) (dB 0 (l' := [_, _, _]) (us := [_, _, _]) H4.f3 cO O O O (aG (aZ (by first | rfl | exact Rd.one ((H4.f2).aS)) (aZ (by first | rfl | exact Rd.one ((H4).aS)) bU))) O O) ?_
 rintro _ w7 H7
 have Bd := V.kp (H7.f4.f4.f4.f4)
 refine iG Bd (by kernel_rfl) ?_
 refine qV (aX (nI ?_))
 refine rJ (.inl O) (OI results179 O bf O (by rw [sZ]; rfl) (H7).get.2) ?_
 exact ⟨_, _, O, H7.right.f3.right.f2⟩
theorem Ia (H : V w0 w F) (hd : jF w0 F .i32 d dl) (hi : jF w0 F .i32 z il) (b2 : dl.length ≤ 35184372087808) (b3 : il.length ≤ 35184372087808) :
  iE prog 198 #[edV a d z] w fun v' w' => ∃ d' s', v' = edV a d' s' ∧ V w0 w' (ku 21 .i32 d' il • ku 21 .i32 s' dl • F) := by
 refine iZ func198 ntmps198 ?_
 refine iR (kD (jL (l := [_, _, _]) H O O) ?_)
 rintro _ w1 ⟨b1, rfl, H1⟩
 refine kD (iC (l := [_, _, _]) H1 dQ O) ?_
 rintro _ w2 ⟨b2, rfl, H2⟩
 refine zk7 (bJ 0 bf O ay O (fM aH O (H2.f2).get.2 O (bJ 2 bf O dh O (fM aj O (H2.f2).get.2 O (bJ 1 bf O dh O (fM aj O (H2.f2).get.2 O ?_))))))
 obtain ⟨az, cz, ez, -⟩ := gJ.open (hi _ (H2.right.right))
 subst ez
 obtain ⟨ad, cd, ed, -⟩ := gJ.open (hd _ (H2.right.right))
 subst ed
 refine Z (mJ (pl := #[(0, 1), (1, 1), (2, 1)]) (#[_, _, _]) bf dQ (fun w => by kernel_rfl) O (O)) (dS O func179 (yM H2 (fun W HW => hi _ (HW.right.right)) (fun W HW => hd _ (HW.right.right)) (by omega) (by omega)) ?_)
 rintro _ w5 ⟨d5, s5, rfl, H5⟩
 refine aJ (dB 0 (l' := [_, _, _]) (us := [_, _, _]) H5.f3 cO O O O (aG (aZ (by first | rfl | exact Rd.one ((H5).aS)) (aZ (by first | rfl | exact Rd.one ((H5.f2).aS)) bU))) O O) ?_
 rintro _ w6 H6
 refine zkc ?_
 refine rJ (.inl O) (OI results198 O bf O (by rw [sZ]; rfl) (H6).get.2) ?_
 exact ⟨_, _, O, H6.right.f3.right.f2.f2⟩
end
end Go.Proofs.YtpdeedplgmbopaaGreatDoor
end
section
namespace Go.Proofs.YtpdeedplgmbopaaGreatDoor
open Go.RowKit
section
variable {w0 w : World} {F : HP} {v d s z d2 z2 u1 u2 u3 : Value} {L dl il dl2 il2 l1 l2 l3 : List Int} {a a2 : Int}
def jK (a a2 : Int) (dl il dl2 il2 : List Int) : Nat := if dl2.length = 0 ∧ a2 = a + il.length then 1 else if il.length = 0 ∧ il2.length = 0 ∧ a = a2 + dl2.length then 2 else 0
def jA (k : Nat) (a a2 : Int) : Int := if k = 1 then a else if k = 2 then a2 else 0
def jD (k : Nat) (dl dl2 : List Int) : List Int := if k = 1 then dl else if k = 2 then dl2 ++ dl else []
def jI (k : Nat) (il il2 : List Int) : List Int := if k = 1 then il ++ il2 else []
end
structure fA where
  a : Int
  d : Value
  dl : List Int
  i : Value
  il : List Int
instance : Inhabited fA := ⟨⟨0, .slice none 0 0, [], .slice none 0 0, []⟩⟩
def fA.enc (e : fA) : List Value := [.int .i64 e.a, e.d, e.i]
theorem fA.Gt (e : fA) : e.enc.length = 3 := rfl
def fA.Imm (I : Hp) (e : fA) : Prop := ED I .i32 e.d e.dl ∧ ED I .i32 e.i e.il
theorem fA.Imm.mono {I I' : Hp} {e : fA} (hl : Hp.le I I') (h : e.Imm I) : e.Imm I' := ⟨h.1.mono hl, h.2.mono hl⟩
def fA.says (e : fA) : Int × List Int × List Int := (e.a, e.dl, e.il)
def Jl (I : Hp) (es : List fA) : Prop := ∀ k, k < es.length → (es.getD k default).Imm I
theorem Jl.mono {I I' : Hp} {es : List fA} (hl : Hp.le I I') (h : Jl I es) : Jl I' es := fun k hk => (h k hk).mono hl
theorem Jl.app {I : Hp} {es fs : List fA} (h : Jl I es) (g : Jl I fs) : Jl I (es ++ fs) := fun k hk => by
  by_cases hl : k < es.length
  · rw [xB hl]; exact h k hl
  · rw [vS (by omega)]; exact g _ (by simp at hk; omega)
theorem Jl.one {I : Hp} {e : fA} (h : e.Imm I) : Jl I [e] := fun k hk => by
  obtain rfl : k = 0 := by simp at hk; omega
  exact h
def lW (es : List fA) : HP := know (fun I => Jl I es) fun _ _ hl h => h.mono hl
def edK (e : fA) : HP := know (fun I => e.Imm I) fun _ _ hl h => h.mono hl
def L6 (v : Value) (es : List fA) : HP := Row 189 3 v es.length (es.flatMap fA.enc) • lW es
def EH (I : Hp) (sz : Nat) (v : Value) (n : Nat) (xs : List Value) : Prop := xs.length = n * sz ∧ ∃ a c, v = .slice a n c ∧ n ≤ c ∧ (c : Int) ≤ 9223372036854775807 ∧
  (0 < n → ∃ b o cs e fr, a = some ⟨b, o, none⟩ ∧ I b = some (.cells cs e fr) ∧ ∀ j, j < n * sz → cs[o + j]? = some (xs.getD j undef))
theorem EH.mono {I I' : Hp} {sz n : Nat} {v : Value} {xs : List Value} (hl : Hp.le I I') (h : EH I sz v n xs) : EH I' sz v n xs := by
  obtain ⟨h0, a, c, h1, h2, h3, h4⟩ := h
  exact ⟨h0, a, c, h1, h2, h3, fun hp => let ⟨b, o, cs, e, fr, e1, e2, e3⟩ := h4 hp; ⟨b, o, cs, e, fr, e1, hl _ _ e2, e3⟩⟩
theorem EH.rd {w : World} {m : Nat} {I : Hp} {sz n : Nat} {v : Value} {xs : List Value} (h : EH I sz v n xs) (hI : ∀ k o, I k = some o → m ≤ k ∧ w.heap[k]? = some o) : Rd w sz v n xs := by
  obtain ⟨h0, a, c, h1, h2, h3, h4⟩ := h
  exact ⟨h0, a, c, h1, h2, h3, fun hp => let ⟨b, o, cs, e, fr, e1, e2, e3⟩ := h4 hp; ⟨b, o, e1, fun j hj => kF (hI _ _ e2).2 (e3 j hj)⟩⟩
theorem EH.YM {I : Hp} {sz n : Nat} {v : Value} {xs : List Value} (h : EH I sz v n xs) : v.oneCell' = true := by obtain ⟨_, a, c, rfl, _⟩ := h; rfl
def ElI (I : Hp) (v : Value) (es : List fA) : Prop := EH I 3 v es.length (es.flatMap fA.enc) ∧ Jl I es
theorem ElI.mono {I I' : Hp} {v : Value} {es : List fA} (hl : Hp.le I I') (h : ElI I v es) : ElI I' v es := ⟨h.1.mono hl, h.2.mono hl⟩
def EP (v : Value) (es : List fA) : HP := know (fun I => ElI I v es) fun _ _ hl h => h.mono hl
def Fz (I : Hp) (gs : List (Value × List fA)) : Prop := ∀ k, k < gs.length → ElI I (gs.getD k default).1 (gs.getD k default).2
theorem Fz.mono {I I' : Hp} {gs : List (Value × List fA)} (hl : Hp.le I I') (h : Fz I gs) : Fz I' gs := fun k hk => (h k hk).mono hl
theorem Fz.app {I : Hp} {es fs : List (Value × List fA)} (h : Fz I es) (g : Fz I fs) : Fz I (es ++ fs) := fun k hk => by
  by_cases hl : k < es.length
  · rw [xB hl]; exact h k hl
  · rw [vS (by omega)]; exact g _ (by simp at hk; omega)
theorem Fz.one {I : Hp} {v : Value} {es : List fA} (h : ElI I v es) : Fz I [(v, es)] := fun k hk => by
  obtain rfl : k = 0 := by simp at hk; omega
  exact h
theorem Fz.take {I : Hp} {gs : List (Value × List fA)} (h : Fz I gs) (n : Nat) : Fz I (gs.take n) := fun k hk => by
  simp at hk
  rw [HY (by omega)]
  exact h k (by omega)
def pY (gs : List (Value × List fA)) : HP := know (fun I => Fz I gs) fun _ _ hl h => h.mono hl
def FB (v : Value) (gs : List (Value × List fA)) : HP := Row 80 1 v gs.length (gs.map (·.1)) • pY gs
section
variable {w0 w : World} {F : HP} {v u : Value} {es fs : List fA} {e : fA} {gs : List (Value × List fA)} {a : Int} {d i : Value} {dl il : List Int}
theorem V.Ko (H : V w0 w F) : V w0 w (lW [] • F) := H.yJ fun I k hk => by simp at hk
theorem V.Kq (H : V w0 w F) : V w0 w (pY [] • F) := H.yJ fun I k hk => by simp at hk
theorem V.uG (H : V w0 w F) (a : Option Addr) : V w0 w (L6 (.slice a 0 0) [] • F) := (H.Ko.jk (e := 189) (sz := 3) a).deep
theorem V.Gu (H : V w0 w F) (a : Option Addr) : V w0 w (FB (.slice a 0 0) [] • F) := (H.Kq.jk (e := 80) (sz := 1) a).deep
theorem V.edL (H : V w0 w (L6 v es • F)) : V w0 w (Row 189 3 v es.length (es.flatMap fA.enc) • lW es • F) := H.flat
theorem V.aa9 (H : V w0 w (FB v gs • F)) : V w0 w (Row 80 1 v gs.length (gs.map (·.1)) • pY gs • F) := H.flat
theorem V.Bf (H : V w0 w (Row 189 3 v (es.length + 1) (es.flatMap fA.enc ++ [.int .i64 a, d, i]) • oP .i32 d dl • oP .i32 i il • lW es • F)) : V w0 w (L6 v (es ++ [⟨a, d, dl, i, il⟩]) • F) := by
  have h1 : V w0 w (oP .i32 d dl • oP .i32 i il • lW es • Row 189 3 v (es.length + 1) (es.flatMap fA.enc ++ [.int .i64 a, d, i]) • F) := H.of_eq (by ac_rfl)
  have h2 : V w0 w (edK ⟨a, d, dl, i, il⟩ • lW es • Row 189 3 v (es.length + 1) (es.flatMap fA.enc ++ [.int .i64 a, d, i]) • F) := h1.F7 (rO (fun I h g => ⟨h, g⟩) _)
  have h3 : V w0 w (lW (es ++ [⟨a, d, dl, i, il⟩]) • Row 189 3 v (es.length + 1) (es.flatMap fA.enc ++ [.int .i64 a, d, i]) • F) := h2.F7 (rO (fun I h g => g.app (Jl.one h)) _)
  refine V.deep (h3.swap.of_eq ?_)
  rw [List.length_append, List.flatMap_append]
  simp [fA.enc]
theorem V.rU (H : V w0 w (L6 v es • F)) : V w0 w (EP v es • F) := by
  have hl := H.edL.yI
  have H := H.edL
  rcases H.vI with ⟨a, rfl, h1, h2, H1⟩ | ⟨g, o, c, cur, rfl, h2, h3, h4, h5, H1⟩
  · refine H1.F7 (qN (fun I hI => ⟨⟨hl, a, 0, by rw [h1], by omega, by decide, fun h => by omega⟩, hI⟩) F)
  · exact H1.freeze.F7 (rO (fun I hI hE => ⟨⟨hl, _, c, rfl, h2, h3, fun _ => ⟨g, o, cur, _, (0, 0), rfl, hI, h5⟩⟩, hE⟩) F)
theorem V.yg (H : V w0 w (EP v es • F)) : Rd w 3 v es.length (es.flatMap fA.enc) := let ⟨I, h, hI⟩ := H.uF; h.1.rd hI
theorem V.aek (H : V w0 w (EP v es • F)) {k : Nat} (hk : k < es.length) : gJ w .i32 (es.getD k default).d (es.getD k default).dl := let ⟨I, h, hI⟩ := H.uF; (h.2 k hk).1.rd hI
theorem V.ael (H : V w0 w (EP v es • F)) {k : Nat} (hk : k < es.length) : gJ w .i32 (es.getD k default).i (es.getD k default).il := let ⟨I, h, hI⟩ := H.uF; (h.2 k hk).2.rd hI
theorem V.QI (H : V w0 w (pY gs • F)) {k : Nat} (hk : k < gs.length) : V w0 w (EP (gs.getD k default).1 (gs.getD k default).2 • pY gs • F) := H.vF.F7 (qN (fun I h => h k hk) _)
theorem V.QJ (H : V w0 w (pY gs • F)) (n : Nat) : V w0 w (pY (gs.take n) • F) := H.F7 (qN (fun I h => h.take n) _)
theorem V.uT (H : V w0 w (Row 80 1 v (gs.length + 1) (gs.map (·.1) ++ [u]) • EP u es • pY gs • F)) : V w0 w (FB v (gs ++ [(u, es)]) • F) := by
  have h1 : V w0 w (EP u es • pY gs • Row 80 1 v (gs.length + 1) (gs.map (·.1) ++ [u]) • F) := H.of_eq (by ac_rfl)
  have h3 : V w0 w (pY (gs ++ [(u, es)]) • Row 80 1 v (gs.length + 1) (gs.map (·.1) ++ [u]) • F) := h1.F7 (rO (fun I h g => g.app (Fz.one h)) _)
  refine V.deep (h3.swap.of_eq ?_)
  rw [List.length_append, List.map_append]
  rfl
theorem V.DC (H : V w0 w (lW es • F)) : ∀ x ∈ es.flatMap fA.enc, x.oneCell' = true := by
  obtain ⟨I, h, hI⟩ := H.uF
  intro x hx
  obtain ⟨e, he, hx⟩ := List.mem_flatMap.1 hx
  obtain ⟨k, hk, rfl⟩ := List.getElem_of_mem he
  have := h k hk
  rw [List.getD_eq_getElem?_getD, List.getElem?_eq_getElem hk] at this
  simp [fA.enc] at hx
  rcases hx with rfl | rfl | rfl
  · rfl
  · exact this.1.YM
  · exact this.2.YM
end
end Go.Proofs.YtpdeedplgmbopaaGreatDoor
end
