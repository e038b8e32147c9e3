import Derived.Test.YtpdeedplgmbopaaGreatDoorZ4
import Derived.Test.YtpdeedplgmbopaaGreatDoorZ5
import Derived.Test.YtpdeedplgmbopaaGreatDoorZ3
set_option linter.unusedSimpArgs false
set_option linter.unusedVariables false
/- Texts of mine, joined, their names in short: Ring Ring2 Ring3 RingAny LL Flat Undo1 Undo2 Eds. -/
section
namespace Go.Proofs.YtpdeedplgmbopaaGreatDoor
open Go.RowKit
open _root_.Go.Proofs.Tryz
def dW (s : List Value) (h n p : Nat) : Array Value := (Value.bool true :: (s ++ [.int .i64 h, .int .i64 n, .int .i64 p])).toArray
section
variable {s : List Value} {h n p : Nat}
theorem oM (hs : s.length = 60) : (dW s h n p).size = 64 := by simp [dW, hs]
theorem BL : (dW s h n p)[0]? = some (.bool true) := by simp [dW]
theorem PG (hs : s.length = 60) {i : Nat} (hi : i < 60) : (dW s h n p)[1 + i]? = some (s.getD i undef) := by
  simp [dW, Nat.add_comm 1 i, List.getElem?_append_left (show i < s.length by omega), List.getD_eq_getElem?_getD, show i < s.length by omega]
theorem Cc (hs : s.length = 60) : (dW s h n p)[61]? = some (.int .i64 h) := by simp [dW, hs]
theorem pO (hs : s.length = 60) : (dW s h n p)[62]? = some (.int .i64 n) := by simp [dW, hs]
theorem LX (hs : s.length = 60) : (dW s h n p)[63]? = some (.int .i64 p) := by simp [dW, hs]
theorem Ov (hs : s.length = 60) (x : Nat) : (dW s h n p).setIfInBounds 61 (.int .i64 x) = dW s x n p := by
  apply Array.ext'; simp [dW, List.set_append, hs]
theorem Ox (hs : s.length = 60) (x : Nat) : (dW s h n p).setIfInBounds 62 (.int .i64 x) = dW s h x p := by
  apply Array.ext'; simp [dW, List.set_append, hs]
theorem qO (hs : s.length = 60) (x : Nat) : (dW s h n p).setIfInBounds 63 (.int .i64 x) = dW s h n x := by
  apply Array.ext'; simp [dW, List.set_append, hs]
theorem BM (hs : s.length = 60) {i : Nat} (hi : i < 60) (v : Value) : (dW s h n p).setIfInBounds (1 + i) v = dW (s.set i v) h n p := by
  apply Array.ext'; simp [dW, Nat.add_comm 1 i, List.set_append, hs, hi]
end
def Tj (I : Hp) (s : List Value) (h : Nat) (E : List (List Int)) : Prop := ∀ i, i < E.length → FK I .i32 (s.getD ((h + i) % 60) undef) (E.getD i [])
def Df (s : List Value) (h : Nat) (E : List (List Int)) : HP := know (fun I => Tj I s h E) fun _ _ hl hk i hi => (hk i hi).mono hl
def gq (p : Nat) (E : List (List Int)) (place : Nat) : HP := xQ fun (x : List Value × Nat) =>
  fact (x.1.length = 60 ∧ x.2 < 60 ∧ E.length ≤ 60 ∧ (place < E.length ∨ place = 0) ∧ (∀ e ∈ E, e.length ≤ 1024) ∧ ∀ v ∈ x.1, v.oneCell' = true) • eP p (.cells (dW x.1 x.2 E.length place) 207 (0, 0)) • Df x.1 x.2 E
section
variable {w0 w : World} {F : HP} {p place : Nat} {E : List (List Int)}
theorem V.ring (H : V w0 w (gq p E place • F)) : ∃ s h, s.length = 60 ∧ h < 60 ∧ E.length ≤ 60 ∧ (place < E.length ∨ place = 0) ∧ (∀ e ∈ E, e.length ≤ 1024) ∧ (∀ v ∈ s, v.oneCell' = true) ∧ V w0 w (eP p (.cells (dW s h E.length place) 207 (0, 0)) • Df s h E • F) := by
  obtain ⟨⟨s, h⟩, H⟩ := H.oN
  obtain ⟨⟨h1, h2, h3, h4, h5, h6⟩, H⟩ := H.flat.fact
  exact ⟨s, h, h1, h2, h3, h4, h5, h6, H.flat⟩
theorem V.zq {s : List Value} {h : Nat} (h1 : s.length = 60) (h2 : h < 60) (h3 : E.length ≤ 60) (h4 : place < E.length ∨ place = 0) (h5 : ∀ e ∈ E, e.length ≤ 1024) (h6 : ∀ v ∈ s, v.oneCell' = true) (H : V w0 w (eP p (.cells (dW s h E.length place) 207 (0, 0)) • Df s h E • F)) : V w0 w (gq p E place • F) :=
  V.jV (s, h) (V.deep (V.mW ⟨h1, h2, h3, h4, h5, h6⟩ H.deep))
theorem QK (H : V w0 w F) : iQ prog 110 #[] w fun v w' => ∃ p, v = .pointer (some ⟨p, 0, none⟩) ∧ V w0 w' (gq p [] 0 • F) := by
  refine YP func110 ntmps110 ?_
  refine ku O (iy (aQ (nP (pl := #[(0, 1), (1, 60), (61, 1), (62, 1), (63, 1)]) (dW (List.replicate 60 (.slice none 0 0)) 0 0 0) dF zeroValue207 (fun w => by kernel_rfl) O (by kernel_rfl)) (kF (XF H O) ?_)))
  rintro _ w1 ⟨b1, rfl, H1⟩
  refine fA O (dI results110 O ?_)
  refine ⟨b1, O, V.zq (s := List.replicate 60 (.slice none 0 0)) (h := 0) (by simp) (by omega) (by simp) (.inr O) (by simp) (by intro v hv; rw [List.eq_of_mem_replicate hv]; rfl) ?_⟩
  exact V.swap (V.zn (fun I i hi => by simp at hi) H1)
theorem lK (t : TypeId) {cs : Array Value} {fr : Nat × Nat} {m : Bool} (hb : w.heap[p]? = some (.cells cs t fr)) (h0 : cs[0]? = some (.bool m)) :
    iQ prog 140 #[.pointer (some ⟨p, 0, none⟩)] w fun v w' => v = .bool (!m) ∧ w = w' := by
  refine ji func140 ntmps140 ?_
  refine ku O (bM O (aQ (iJ uP O O) (JG O (fun h1 => ?_))))
  (try simp only [Z] at h1)
  refine aY (bJ O (aY (dK O (aY (bI 0 dF O aS O (aY (fC cZ O hb h0 (aY (aQ (kG O) (fG O O (fA O (dI results140 O ?_))))))))))))
  exact ⟨O, O⟩
theorem V.Eh {s : List Value} {h i : Nat} (H : V w0 w (Df s h E • F)) (hi : i < E.length) : fJ w .i32 (s.getD ((h + i) % 60) undef) (E.getD i []) := let ⟨I, k, hI⟩ := H.uZ; (k i hi).rd hI
theorem yG {s : List Value} {h n m : Nat} {t : TypeId} {fr : Nat × Nat} {k : Nat} (hs : s.length = 60) (hh : h < 60) (hk : k < 60) (hb : w.heap[p]? = some (.cells (dW s h n m) t fr)) :
  iQ prog 141 #[.pointer (some ⟨p, 0, none⟩), .int .i64 k] w fun v w' => v = s.getD ((h + k) % 60) undef ∧ Ba w w' := by
 refine qc func141 ntmps141 ?_
 refine ku O (aI ?_)
 refine rV (n := 13) [0, 1, 2, 3, 4, 5, 6, 7, 8, 9, 10, 11, 12] (fun W => W.heap = w.heap) (by kernel_rfl) (by kernel_rfl) O ?_
 have hS0 : (fun W => W.heap = w.heap) (w.drew) := rfl
 refine gX 0 O hS0 O (gX 1 O hS0 O (jE 2 O hS0 O (gy 3 O hS0 61 dF O ay O ?_)))
 refine jf 4 O hS0 (fun W hW => jv aC O (by rw [hW]; exact hb) (Cc hs)) ?_
 refine gX 5 O hS0 O (iI 6 O hS0 (fun _ => fQ O O (by omega)) ?_)
 refine iI 7 O hS0 (fun _ => aah O O (by omega) (by  omega)) ?_
 refine jE 8 O hS0 O (gy 9 O hS0 1 dF O sizeOf205 O (iI 10 O hS0 (fun _ => Bf underlying205 bV O O (by omega)) ?_))
 refine jf 11 O hS0 (fun W hW => jv ah O (by rw [hW]; exact hb) (by rw [show (1 + (((h : Int) + (k : Int)) % 60).toNat * 1) = 1 + (h + k) % 60 from by omega]; exact PG hs (by omega))) ?_
 refine iI 12 O hS0 (fun _ => dB O) (pq (aX (lQ (dI results141 O ?_))))
 exact ⟨O, ⟨1, O⟩⟩
theorem QL (H : V w0 w (gq p E place • F)) : iQ prog 86 #[.pointer (some ⟨p, 0, none⟩)] w fun v w' => v = .int .i64 E.length ∧ w = w' := by
  obtain ⟨s, h, hs, hh, hE, hp, hm, ho, H1⟩ := H.ring
  have hb := H1.get.2
  refine ji func86 ntmps86 ?_
  refine ku O (aI (bM O (dS O func140 (lK _ hb BL) ?_)))
  rintro _ _ ⟨rfl, rfl⟩
  refine iE (oh (fV (bM O (dK O (bI 62 dF O ay O (fC aC O hb (pO hs) (fA O (dI results86 O ?_))))))))
  exact ⟨O, O⟩
theorem QM {s : List Value} {u : Value} {i : Nat} (h : ∀ v ∈ s, v.oneCell' = true) (hu : u.oneCell' = true) : ∀ v ∈ s.set i u, v.oneCell' = true := by
  intro v hv
  rcases List.mem_or_eq_of_mem_set hv with hv | rfl
  · exact h v hv
  · exact hu
theorem VO {I : Hp} {s : List Value} {h : Nat} {l : List Int} {v : Value} (hs : s.length = 60) (hh : h < 60) (hE : E.length ≤ 60) (hS : Tj I s h E) (hv : FK I .i32 v l) :
    Tj I (s.set ((h + 59) % 60) v) ((h + 59) % 60) ((l :: E).take 60) := by
  intro i hi
  have ajN : i < 60 ∧ i < E.length + 1 := by simp at hi; omega
  rw [List.getD_eq_getElem?_getD (l := (l :: E).take 60), List.getElem?_take, if_pos (by omega)]
  cases i with
  | zero =>
    have e : ((h + 59) % 60 + 0) % 60 = (h + 59) % 60 := by omega
    rw [e, List.getD_eq_getElem?_getD, List.getElem?_set_self (by omega)]
    exact hv
  | succ i =>
    have e : ((h + 59) % 60 + (i + 1)) % 60 = (h + i) % 60 := by omega
    have hne : ¬ (h + 59) % 60 = (h + i) % 60 := by omega
    rw [e, List.getD_eq_getElem?_getD, List.getElem?_set_ne hne, ← List.getD_eq_getElem?_getD]
    have := hS i (by omega)
    simpa [List.getD_eq_getElem?_getD] using this
theorem FX {v : Value} {l : List Int} (H : V w0 w (gq p E place • F)) (hr : jh w0 F .i32 v l) (hl : l.length ≤ 1024) :
    iQ prog 211 #[.pointer (some ⟨p, 0, none⟩), v] w fun _ w' => V w0 w' (gq p ((l :: E).take 60) 0 • F) := by
  obtain ⟨s, h, hs, hh, hE, hp, hm, ho, H⟩ := H.ring
  have hh' : (h + 59) % 60 < 60 := by omega
  refine qc func211 ntmps211 ?_
  refine bM O (oq O O (bI 61 dF O ay O (fC aC O H.get.2 (Cc hs) (aQ (fQ O O (by omega)) (aQ (jk O O (by omega)) ?_)))))
  refine aQ (aah O O (by omega) (by  omega)) ?_
  refine dK O (bI 61 dF O ay O (aJ (kH H ay O O O (by rw [oM hs]; decide)) ?_))
  rintro _ w1 H1
  rw [show (((h : Int) + 60 - 1) % 60) = (((h + 59) % 60 : Nat) : Int) from by omega, Ov hs] at H1
  refine rP ?_
  refine rV (n := 11) [0, 1, 2, 3, 4, 5, 6, 7, 8, 9, 10] (fun W => W.heap[p]? = some (.cells (dW s ((h + 59) % 60) E.length place) 207 (0, 0))) (by kernel_rfl) (by kernel_rfl) O ?_
  have hS0 : (fun W => W.heap[p]? = some (.cells (dW s ((h + 59) % 60) E.length place) 207 (0, 0))) (w1.drew) := H1.get.2
  have H1d := H1.drew
  refine gX 0 O hS0 O (gX 1 O hS0 O (jE 2 O hS0 O (gy 3 O hS0 61 dF O ay O (jf 4 O hS0 (fun W hW => jv aC O hW (Cc hs)) (gX 5 O hS0 O (jE 7 O hS0 O (gy 8 O hS0 1 dF O sizeOf205 O (mQ 6 O (wR O func71 (oL H1d hr.under.under (by omega))) ?_))))))))
  rintro u w2 H2
  have hS2 : (fun W => W.heap[p]? = some (.cells (dW s ((h + 59) % 60) E.length place) 207 (0, 0))) w2 := H2.swap.get.2
  refine Hf hS2 ?_
  refine iI 9 O hS2 (fun _ => Bf underlying205 bV O O (by omega)) ?_
  refine iH 10 O (by kernel_rfl) (kH H2.swap bV O O H2.aP.one (by rw [oM hs]; omega)) ?_
  rintro _ w3 H3
  rw [show (1 + ((((h + 59) % 60 : Nat) : Int)).toNat * 1) = 1 + (h + 59) % 60 from by omega, BM hs hh'] at H3
  have hs' : (s.set ((h + 59) % 60) u).length = 60 := by simp [hs]
  have ho' := QM ho (u := u) (i := (h + 59) % 60) H2.aP.one
  refine LG (by kernel_rfl) ?_
  refine pq (aX (bM O (oq O O (bI 62 dF O ay O (fC aC O H3.get.2 (pO hs') (aQ (fQ O O (by omega)) (aQ (wO O O) (dK O (bI 62 dF O ay O (aJ (kH H3 ay O O O (by rw [oM hs']; decide)) ?_))))))))))
  rintro _ w4 H4
  rw [show min ((E.length : Int) + 1) 60 = ((min (E.length + 1) 60 : Nat) : Int) from by omega, Ox hs'] at H4
  refine iE (aB (oq O O (bI 63 dF O ay O (aJ (kH H4 ay O O O (by rw [oM hs']; decide)) ?_))))
  rintro _ w5 H5
  rw [show (Value.int .i64 0) = .int .i64 ((0 : Nat) : Int) from rfl, qO hs'] at H5
  refine bZ (mX (.inr O) results211 ?_)
  have hlen : ((l :: E).take 60).length = min (E.length + 1) 60 := by simp; omega
  refine V.zq hs' hh' (by omega) (.inr O) ?_ ho' ?_
  · intro e he
    rcases List.mem_cons.1 (List.mem_of_mem_take he) with rfl | he
    · exact hl
    · exact hm e he
  · rw [hlen]
    exact (H5.swap.mY.Og.GY (sW (fun I a b => VO hs hh hE a b) _)).swap
end
def Ei (E : List (List Int)) (place : Nat) (way : Int) (l : List Int) : Int × List (List Int) × Nat :=
  if way < 0 ∨ 2 < way then (1, E, place)
  else if 1024 < l.length then (3, E, place)
  else if way ≠ 0 ∧ 0 < E.length then
    if 1024 < l.length + (E.getD 0 []).length then (3, E, place)
    else (0, (if way = 1 then E.getD 0 [] ++ l else l ++ E.getD 0 []) :: E.tail, 0)
  else if way = 0 ∧ l.length = 0 then (0, E, place)
  else (0, (l :: E).take 60, 0)
theorem JM {I : Hp} {s : List Value} {h : Nat} {l : List Int} {v : Value} {E : List (List Int)} (hs : s.length = 60) (hh : h < 60) (hE : E.length ≤ 60) (h0 : 0 < E.length) (hS : Tj I s h E) (hv : FK I .i32 v l) :
    Tj I (s.set h v) h (l :: E.tail) := by
  intro i hi
  have hi' : i < E.length := by simp at hi; omega
  cases i with
  | zero =>
    have e : (h + 0) % 60 = h := by omega
    rw [e, List.getD_eq_getElem?_getD, List.getElem?_set_self (by omega)]
    exact hv
  | succ i =>
    have hne : ¬ h = (h + (i + 1)) % 60 := by omega
    rw [List.getD_eq_getElem?_getD, List.getElem?_set_ne hne, ← List.getD_eq_getElem?_getD]
    have := hS (i + 1) hi'
    simpa [List.getD_eq_getElem?_getD] using this
section
variable {w0 w : World} {F : HP} {p place : Nat} {E : List (List Int)} {v : Value} {l : List Int} {way : Int}
theorem yB (h0 : 0 < E.length) (x : List Int) : (x :: E.tail).length = E.length := by simp; omega
theorem Oy (H : V w0 w (gq p E place • F)) (hr : jh w0 F .i32 v l) (hw : way < 0 ∨ 2 < way) :
    iQ prog 199 #[.pointer (some ⟨p, 0, none⟩), .int .i64 way, v] w fun v' w' => v' = .int .i64 1 ∧ V w0 w' (gq p E place • F) := by
  obtain ⟨s, h, hs, hh, hE, hp, hm, ho, H1⟩ := H.ring
  have hb := H1.get.2
  refine zk func199 ntmps199 ?_
  refine ku O (aI (bM O (dS O func140 (lK _ hb BL) ?_)))
  rintro _ _ ⟨rfl, rfl⟩
  refine iE (oh (fV (aI (bM O (aQ (gW O O) (jm O (fun h1 => ?_) (fun h1 => ?_)))))))
  · (try simp only [Z] at h1)
    refine bn (bn (je O O (iE (C9 (kC O (aA (dI oI O ?_)))))))
    exact ⟨O, H⟩
  · (try simp only [Z] at h1)
    refine aY (bJ O (aY (aQ (eX O O) (fG O O (iE (wcA O (fun h2 => ?_)))))))
    (try simp only [Z] at h2)
    refine kC O (aA (dI oI O ?_))
    exact ⟨O, H⟩
theorem LY (H : V w0 w (gq p E place • F)) (hr : jh w0 F .i32 v l) (hw : 0 ≤ way ∧ way ≤ 2) (hl : 1024 < l.length) :
    iQ prog 199 #[.pointer (some ⟨p, 0, none⟩), .int .i64 way, v] w fun v' w' => v' = .int .i64 3 ∧ V w0 w' (gq p E place • F) := by
  obtain ⟨s, h, hs, hh, hE, hp, hm, ho, H1⟩ := H.ring
  have hb := H1.get.2
  obtain ⟨a, c, rfl, _, _, _⟩ := (hr w H.right).open
  refine zk func199 ntmps199 ?_
  refine ku O (aI (bM O (dS O func140 (lK _ hb BL) ?_)))
  rintro _ _ ⟨rfl, rfl⟩
  refine iE (oh (fV (aI (bM O (aQ (gW O O) (Z4 O (fun h1 => ?_)))))))
  (try simp only [Z] at h1)
  refine aY (bJ O (aY (aQ (eX O O) (fG O O (iE (VH O (fun h2 => ?_)))))))
  (try simp only [Z] at h2)
  refine fV (bM O (aQ (gY O O) (jm O (fun h3 => ?_) (fun h3 => ?_))))
  · (try simp only [Z] at h3)
    refine aY (bJ O (aY (dK O (aY (bI 62 dF O ay O (aY (fC aC O hb (pO hs) (aY (aQ (eX O O) (je O O (uf O (bf (bM O (aQ (jH ah O) (aQ (eX O O) (xsA O (fun h4 => ?_)))))))))))))))))
    (try simp only [Z] at h4)
    refine bn (bn (lH (lH (lH (lH (lH (lH (lH (bn (je O O (dZ O (C9 (kC O (aU (aA (dI oI O ?_))))))))))))))))
    exact ⟨O, H⟩
  · (try simp only [Z] at h3)
    refine bn (bn (bn (bn (bn (fG O O (uf O (bf (bM O (aQ (jH ah O) (aQ (eX O O) (xsA O (fun h5 => ?_))))))))))))
    (try simp only [Z] at h5)
    refine bn (bn (lH (lH (lH (lH (lH (lH (lH (bn (je O O (dZ O (C9 (kC O (aU (aA (dI oI O ?_))))))))))))))))
    exact ⟨O, H⟩
theorem Hw (H : V w0 w (gq p E place • F)) (hr : jh w0 F .i32 v l) (hl : l.length = 0) :
    iQ prog 199 #[.pointer (some ⟨p, 0, none⟩), .int .i64 0, v] w fun v' w' => v' = .int .i64 0 ∧ V w0 w' (gq p E place • F) := by
  obtain ⟨s, h, hs, hh, hE, hp, hm, ho, H1⟩ := H.ring
  have hb := H1.get.2
  obtain ⟨a, c, rfl, _, _, _⟩ := (hr w H.right).open
  refine zk func199 ntmps199 ?_
  refine ku O (aI (bM O (dS O func140 (lK _ hb BL) ?_)))
  rintro _ _ ⟨rfl, rfl⟩
  refine iE (oh (fV (aI (bM O (aQ (gW O O) (Z4 O (fun h1 => ?_)))))))
  (try simp only [Z] at h1)
  refine aY (bJ O (aY (aQ (eX O O) (fG O O (iE (VH O (fun h2 => ?_)))))))
  (try simp only [Z] at h2)
  refine fV (bM O (aQ (gY O O) (Z4 O (fun h3 => ?_))))
  (try simp only [Z] at h3)
  refine bn (bn (bn (bn (bn (fG O O (uf O (bf (bM O (aQ (jH ah O) (aQ (eX O O) (Z4 O (fun h4 => ?_))))))))))))
  (try simp only [Z] at h4)
  refine aY (bJ O (aY (bJ O (bn (bn (bn (bn (bn (bn (bn (aY (fG O O (fG O O (dZ O (oh (bM O (aQ (eF O O) (xsA O (fun h5 => ?_)))))))))))))))))))
  (try simp only [Z] at h5)
  refine aY (bJ O (aY (aQ (jH ah O) (aY (aQ (eF O O) (je O O (dZ O (wcA O (fun h6 => ?_)))))))))
  (try simp only [Z] at h6)
  refine kC O (aU (aA (dI oI O ?_)))
  exact ⟨O, H⟩
theorem Oz (H : V w0 w (gq p E place • F)) (hr : jh w0 F .i32 v l) (hw : 0 ≤ way ∧ way ≤ 2) (hl : l.length ≤ 1024) (hj : way = 0 ∨ E.length = 0) (hn : ¬ (way = 0 ∧ l.length = 0)) :
  iQ prog 199 #[.pointer (some ⟨p, 0, none⟩), .int .i64 way, v] w fun v' w' => v' = .int .i64 0 ∧ V w0 w' (gq p ((l :: E).take 60) 0 • F) := by
 obtain ⟨s, h, hs, hh, hE, hp, hm, ho, H1⟩ := H.ring
 have hb := H1.get.2
 obtain ⟨a, c, hv, _, _, _⟩ := (hr w H.right).open
 subst hv
 refine zk func199 ntmps199 ?_
 refine ku O (aI (bM O (dS O func140 (lK _ hb BL) ?_)))
 rintro _ _ ⟨rfl, rfl⟩
 refine iE (oh (fV (aI (bM O (aQ (gW O O) (Z4 O (fun h1 => ?_)))))))
 (try simp only [Z] at h1)
 refine aY (bJ O (aY (aQ (eX O O) (fG O O (iE (VH O (fun h2 => ?_)))))))
 (try simp only [Z] at h2)
 refine fV (bM O (aQ (gY O O) (jm O (fun h3 => ?_) (fun h3 => ?_))))
 ·(try simp only [Z] at h3)
  refine aY (bJ O (aY (dK O (aY (bI 62 dF O ay O (aY (fC aC O hb (pO hs) (aY ?_))))))))
  refine aQ (Po (eX O O) (by first | (rw [decide_eq_true_eq]; omega) | (rw [decide_eq_false_iff_not]; omega) | (rw [beq_iff_eq]; omega) | (rw [beq_eq_false_iff_ne]; omega) | (rw [bne_iff_ne]; omega) | (rw [bne_eq_false_iff_eq]; omega) | (simp; done) | (simp; omega))) ?_
  refine je O O (uf O (bf (bM O (aQ (jH ah O) (aQ (eX O O) (Z4 O (fun h4 => ?_)))))))
  (try simp only [Z] at h4)
  refine aY (bJ O (aY (bJ O (bn (bn (bn (bn (bn (bn (bn (aY (fG O O (fG O O (dZ O (oh (bM O (aQ (eF O O) (jm O (fun h5 => ?_) (fun h5 => ?_)))))))))))))))))))
  ·(try simp only [Z] at h5)
   exfalso; first | contradiction | omega
  ·(try simp only [Z] at h5)
   refine bn (bn (bn (fG O O (dZ O (oh (bM O (aQ (kG O) (dZ O (aZ O (fun h9 => ?_) (fun h9 => ?_))))))))))
   ·(try simp only [Z] at h9)
    refine aB (jX O O (dS O func211 (FX H hr hl) ?_))
    rintro _ Pz H7
    obtain ⟨s2, h2, hs2, hh2, hE2, hp2, hm2, ho2, H2⟩ := H7.ring
    refine bZ (aH (aX (bM O (dK O (bI 63 dF O ay O (aJ (kH H2 ay O O O (by rw [oM hs2]; decide)) ?_))))))
    rintro _ QI H8
    rw [show (Value.int .i64 0) = .int .i64 ((0 : Nat) : Int) from rfl, qO hs2] at H8
    refine iE (kC O (dI oI O ?_))
    exact ⟨O, V.zq hs2 hh2 hE2 hp2 hm2 ho2 H8⟩
   ·(try simp only [Z] at h9)
    exfalso; first | contradiction | omega
 ·(try simp only [Z] at h3)
  refine bn (bn (bn (bn (bn (fG O O (uf O (bf (bM O (aQ (jH ah O) (aQ (eX O O) (Z4 O (fun h11 => ?_))))))))))))
  (try simp only [Z] at h11)
  refine aY (bJ O (aY (bJ O (bn (bn (bn (bn (bn (bn (bn (aY (fG O O (fG O O (dZ O (oh (bM O (aQ (eF O O) (jm O (fun h12 => ?_) (fun h12 => ?_)))))))))))))))))))
  ·(try simp only [Z] at h12)
   refine aY (bJ O (aY (aQ (jH ah O) (aY (aQ (eF O O) (je O O (dZ O (VH O (fun h13 => ?_)))))))))
   (try simp only [Z] at h13)
   refine bM O (aQ (kG O) (dZ O (aZ O (fun h14 => ?_) (fun h14 => ?_))))
   ·(try simp only [Z] at h14)
    refine aB (jX O O (dS O func211 (FX H hr hl) ?_))
    rintro _ w26 H7
    obtain ⟨s2, h2, hs2, hh2, hE2, hp2, hm2, ho2, H2⟩ := H7.ring
    refine bZ (aH (aX (bM O (dK O (bI 63 dF O ay O (aJ (kH H2 ay O O O (by rw [oM hs2]; decide)) ?_))))))
    rintro _ w27 H8
    rw [show (Value.int .i64 0) = .int .i64 ((0 : Nat) : Int) from rfl, qO hs2] at H8
    refine iE (kC O (dI oI O ?_))
    exact ⟨O, V.zq hs2 hh2 hE2 hp2 hm2 ho2 H8⟩
   ·(try simp only [Z] at h14)
    exfalso; first | contradiction | omega
  ·(try simp only [Z] at h12)
   exfalso; first | contradiction | omega
theorem OA (H : V w0 w (gq p E place • F)) (hr : jh w0 F .i32 v l) (hw : 0 < way ∧ way ≤ 2) (hl : l.length ≤ 1024) (hE0 : 0 < E.length) (hj : 1024 < l.length + (E.getD 0 []).length) :
    iQ prog 199 #[.pointer (some ⟨p, 0, none⟩), .int .i64 way, v] w fun v' w' => v' = .int .i64 3 ∧ V w0 w' (gq p E place • F) := by
  obtain ⟨s, h, hs, hh, hE, hp, hm, ho, H1⟩ := H.ring
  have hb := H1.get.2
  obtain ⟨a, c, hv, _, _, _⟩ := (hr w H.right).open
  subst hv
  have hm0 : (E.getD 0 []).length ≤ 1024 := hm _ (by rw [List.getD_eq_getElem?_getD, List.getElem?_eq_getElem hE0]; simp)
  refine zk func199 ntmps199 ?_
  refine ku O (aI (bM O (dS O func140 (lK _ hb BL) ?_)))
  rintro _ _ ⟨rfl, rfl⟩
  refine iE (oh (fV (aI (bM O (aQ (gW O O) (Z4 O (fun h1 => ?_)))))))
  (try simp only [Z] at h1)
  refine aY (bJ O (aY (aQ (eX O O) (fG O O (iE (VH O (fun h2 => ?_)))))))
  (try simp only [Z] at h2)
  refine fV (bM O (aQ (gY O O) (xsA O (fun h3 => ?_))))
  (try simp only [Z] at h3)
  refine aY (bJ O (aY (dK O (aY (bI 62 dF O ay O (aY (fC aC O hb (pO hs) (aY ?_))))))))
  refine aQ (EX (eX O O) (by first | (rw [decide_eq_true_eq]; omega) | (rw [decide_eq_false_iff_not]; omega) | (rw [beq_iff_eq]; omega) | (rw [beq_eq_false_iff_ne]; omega) | (rw [bne_iff_ne]; omega) | (rw [bne_eq_false_iff_eq]; omega) | (simp; done) | (simp; omega))) ?_
  refine je O O (uf O (bf (bM O (aQ (jH ah O) (aQ (eX O O) (Z4 O (fun h4 => ?_)))))))
  (try simp only [Z] at h4)
  refine aY (bJ O (aY (bJ O (aY (bJ O (aY (aQ (jH ah O) (aY (bJ O (aY (dS O func141 (yG (k := 0) hs hh (by omega) hb) ?_)))))))))))
  rintro _ w2 ⟨rfl, hD⟩
  obtain ⟨a0, c0, e0, _, _, _⟩ := ((H1.Bd hD).right.Eh (i := 0) hE0).open
  rw [e0]
  refine aY (aQ (jH ah O) (aY (aQ (jk O O (by omega)) (aY ?_))))
  refine aQ (EX (eX O O) (by first | (rw [decide_eq_true_eq]; omega) | (rw [decide_eq_false_iff_not]; omega) | (rw [beq_iff_eq]; omega) | (rw [beq_eq_false_iff_ne]; omega) | (rw [bne_iff_ne]; omega) | (rw [bne_eq_false_iff_eq]; omega) | (simp; done) | (simp; omega))) ?_
  refine aY (je O O (fG O O (dZ O (C9 (kC O (aU (aA (dI oI O ?_))))))))
  exact ⟨O, H.Bd hD⟩
theorem LZ (H : V w0 w (gq p E place • F)) (hr : jh w0 F .i32 v l) (hw : 0 < way ∧ way ≤ 2) (hE0 : 0 < E.length) (hj : l.length + (E.getD 0 []).length ≤ 1024) :
    iQ prog 199 #[.pointer (some ⟨p, 0, none⟩), .int .i64 way, v] w fun v' w' => v' = .int .i64 0 ∧ V w0 w' (gq p ((if way = 1 then E.getD 0 [] ++ l else l ++ E.getD 0 []) :: E.tail) 0 • F) := by
  obtain ⟨s, h, hs, hh, hE, hp, hm, ho, H⟩ := H.ring
  have hb := H.get.2
  obtain ⟨a, c, hv, _, _, _⟩ := (hr w H.right.right).open
  subst hv
  have hm0 : (E.getD 0 []).length ≤ 1024 := hm _ (by rw [List.getD_eq_getElem?_getD, List.getElem?_eq_getElem hE0]; simp)
  have ajp := PG (h := h) (n := E.length) (p := place) hs (i := (h + 0) % 60) (by omega)
  refine zk func199 ntmps199 ?_
  refine ku O (aI (bM O (dS O func140 (lK _ hb BL) ?_)))
  rintro _ _ ⟨rfl, rfl⟩
  refine iE (oh (fV (aI (bM O (aQ (gW O O) (Z4 O (fun h1 => ?_)))))))
  (try simp only [Z] at h1)
  refine aY (bJ O (aY (aQ (eX O O) (fG O O (iE (VH O (fun h2 => ?_)))))))
  (try simp only [Z] at h2)
  refine fV (bM O (aQ (gY O O) (xsA O (fun h3 => ?_))))
  (try simp only [Z] at h3)
  refine aY (bJ O (aY (dK O (aY (bI 62 dF O ay O (aY (fC aC O hb (pO hs) (aY ?_))))))))
  refine aQ (EX (eX O O) (by first | (rw [decide_eq_true_eq]; omega) | (rw [decide_eq_false_iff_not]; omega) | (rw [beq_iff_eq]; omega) | (rw [beq_eq_false_iff_ne]; omega) | (rw [bne_iff_ne]; omega) | (rw [bne_eq_false_iff_eq]; omega) | (simp; done) | (simp; omega))) ?_
  refine je O O (uf O (bf (bM O (aQ (jH ah O) (aQ (eX O O) (Z4 O (fun h4 => ?_)))))))
  (try simp only [Z] at h4)
  refine aY (bJ O (aY (bJ O (aY (bJ O (aY (aQ (jH ah O) (aY (bJ O (aY (dS O func141 (yG (k := 0) hs hh (by omega) hb) ?_)))))))))))
  rintro _ w2 ⟨rfl, hD⟩
  obtain ⟨a0, c0, e0, _, _, _⟩ := ((H.Bd hD).right.Eh (i := 0) hE0).open
  rw [e0]
  have pz := H.Bd hD
  refine aY (aQ (jH ah O) (aY (aQ (jk O O (by omega)) (aY ?_))))
  refine aQ (Po (eX O O) (by first | (rw [decide_eq_true_eq]; omega) | (rw [decide_eq_false_iff_not]; omega) | (rw [beq_iff_eq]; omega) | (rw [beq_eq_false_iff_ne]; omega) | (rw [bne_iff_ne]; omega) | (rw [bne_eq_false_iff_eq]; omega) | (simp; done) | (simp; omega))) ?_
  refine aY (je O O (fG O O (dZ O (oh (bM O (aQ (eF O O) (Z4 O (fun h5 => ?_))))))))
  (try simp only [Z] at h5)
  refine bn (bn (bn (fG O O (dZ O (oh (bM O (aQ (kG O) (dZ O (VH O (fun h6 => ?_))))))))))
  (try simp only [Z] at h6)
  refine bM O (aQ (eF O O) (dZ O (aZ O (fun h7 => ?_) (fun h7 => ?_))))
  · (try simp only [Z] at h7)
    have hw1 : way = 1 := by omega
    refine rV (n := 14) [0, 1, 2, 3, 4, 5, 6, 7, 8, 9, 10, 11, 12, 13] (fun W => W.heap[p]? = some (.cells (dW s h E.length place) 207 (0, 0))) (by kernel_rfl) (by kernel_rfl) O ?_
    have hS0 : (fun W => W.heap[p]? = some (.cells (dW s h E.length place) 207 (0, 0))) (w2.drew) := pz.get.2
    have Tn := pz.drew
    refine gX 0 O hS0 O (gX 1 O hS0 O (jE 2 O hS0 O (gy 3 O hS0 61 dF O ay O (jf 4 O hS0 (fun W hW => jv aC O hW (Cc hs)) (gX 5 O hS0 O (gX 7 O hS0 O (jE 10 O hS0 O (gy 11 O hS0 1 dF O sizeOf205 O (mQ 6 O (wR O func141 (yG (k := 0) hs hh (by omega) Tn.get.2)) ?_)))))))))
    rintro _ w3 ⟨rfl, hD2⟩
    have E8 := Tn.Bd hD2
    have hS3 : (fun W => W.heap[p]? = some (.cells (dW s h E.length place) 207 (0, 0))) w3 := E8.get.2
    refine Hf hS3 ?_
    refine mQ 8 O (XG (vs := [s.getD ((h + 0) % 60) undef, .slice a l.length c]) E8 jy bV zeroValue22 O O O (by decide) (by rw [e0]; simp [Value.oneCell'])) ?_
    rintro _ w4 ⟨b2, rfl, H4⟩
    have hS4 : (fun W => W.heap[p]? = some (.cells (dW s h E.length place) 207 (0, 0))) w4 := H4.swap.get.2
    refine Hf hS4 ?_
    refine mQ 9 O (wR O func172 (Ee H4 (fun W HW => HW.right.right.Eh (i := 0) hE0) hr.under.under.under (by omega))) ?_
    rintro u w5 H5
    have vF := H5.Og
    have hS5 : (fun W => W.heap[p]? = some (.cells (dW s h E.length place) 207 (0, 0))) w5 := vF.get.2
    refine Hf hS5 ?_
    refine iI 12 O hS5 (fun _ => Bf underlying205 bV O O (by omega)) ?_
    refine iH 13 O (by kernel_rfl) (kH vF bV O O H5.aP.one (by rw [oM hs]; omega)) ?_
    rintro _ w6 KQ
    rw [show (1 + ((h : Int)).toNat * 1) = 1 + h from by omega, BM hs hh] at KQ
    have hs' : (s.set h u).length = 60 := by simp [hs]
    have ho' := QM ho (u := u) (i := h) H5.aP.one
    refine LG (by kernel_rfl) ?_
    refine pq (aH (aX (bM O (dK O (bI 63 dF O ay O (aJ (kH KQ ay O O O (by rw [oM hs']; decide)) ?_))))))
    rintro _ w7 BK
    rw [show (Value.int .i64 0) = .int .i64 ((0 : Nat) : Int) from rfl, qO hs'] at BK
    have Oi := BK.swap.mY
    refine iE (kC O (dI oI O ?_))
    refine ⟨O, V.zq hs' hh (by rw [yB hE0]; omega) (.inr O) ?_ ho' ?_⟩
    · intro e he
      rcases List.mem_cons.1 he with rfl | he
      · first | (rw [if_pos hw1, List.length_append]; omega) | (rw [if_neg (by omega), List.length_append]; omega)
      · exact hm e (List.mem_of_mem_tail he)
    · rw [yB hE0]
      first | rw [if_pos hw1] | rw [if_neg (by omega)]
      exact (Oi.r4.swap.GY (sW (fun I a b => JM hs hh hE hE0 b a) _)).Og.right.swap
  · (try simp only [Z] at h7)
    have hw2 : way = 2 := by omega
    refine rV (n := 14) [0, 1, 2, 3, 4, 5, 6, 7, 8, 9, 10, 11, 12, 13] (fun W => W.heap[p]? = some (.cells (dW s h E.length place) 207 (0, 0))) (by kernel_rfl) (by kernel_rfl) O ?_
    have hS0 : (fun W => W.heap[p]? = some (.cells (dW s h E.length place) 207 (0, 0))) (w2.drew) := pz.get.2
    have H6d := pz.drew
    refine gX 0 O hS0 O (gX 1 O hS0 O (jE 2 O hS0 O (gy 3 O hS0 61 dF O ay O (jf 4 O hS0 (fun W hW => jv aC O hW (Cc hs)) (gX 5 O hS0 O (gX 6 O hS0 O (jE 10 O hS0 O (gy 11 O hS0 1 dF O sizeOf205 O (mQ 7 O (wR O func141 (yG (k := 0) hs hh (by omega) H6d.get.2)) ?_)))))))))
    rintro _ w8 ⟨rfl, hD2⟩
    have E8 := H6d.Bd hD2
    have hS8 : (fun W => W.heap[p]? = some (.cells (dW s h E.length place) 207 (0, 0))) w8 := E8.get.2
    refine Hf hS8 ?_
    refine mQ 8 O (XG (vs := [.slice a l.length c, s.getD ((h + 0) % 60) undef]) E8 jy bV zeroValue22 O O O (by decide) (by rw [e0]; simp [Value.oneCell'])) ?_
    rintro _ w9 ⟨b2, rfl, H9⟩
    have hS9 : (fun W => W.heap[p]? = some (.cells (dW s h E.length place) 207 (0, 0))) w9 := H9.swap.get.2
    refine Hf hS9 ?_
    refine mQ 9 O (wR O func172 (Ee H9 hr.under.under.under (fun W HW => HW.right.right.Eh (i := 0) hE0) (by omega))) ?_
    rintro u w10 pz
    have vF := pz.Og
    have agv : (fun W => W.heap[p]? = some (.cells (dW s h E.length place) 207 (0, 0))) w10 := vF.get.2
    refine Hf agv ?_
    refine iI 12 O agv (fun _ => Bf underlying205 bV O O (by omega)) ?_
    refine iH 13 O (by kernel_rfl) (kH vF bV O O pz.aP.one (by rw [oM hs]; omega)) ?_
    rintro _ FM KQ
    rw [show (1 + ((h : Int)).toNat * 1) = 1 + h from by omega, BM hs hh] at KQ
    have hs' : (s.set h u).length = 60 := by simp [hs]
    have ho' := QM ho (u := u) (i := h) pz.aP.one
    refine LG (by kernel_rfl) ?_
    refine pq (aH (aX (bM O (dK O (bI 63 dF O ay O (aJ (kH KQ ay O O O (by rw [oM hs']; decide)) ?_))))))
    rintro _ w12 BK
    rw [show (Value.int .i64 0) = .int .i64 ((0 : Nat) : Int) from rfl, qO hs'] at BK
    have Oi := BK.swap.mY
    refine iE (kC O (dI oI O ?_))
    refine ⟨O, V.zq hs' hh (by rw [yB hE0]; omega) (.inr O) ?_ ho' ?_⟩
    · intro e he
      rcases List.mem_cons.1 he with rfl | he
      · first | (rw [if_pos hw1, List.length_append]; omega) | (rw [if_neg (by omega), List.length_append]; omega)
      · exact hm e (List.mem_of_mem_tail he)
    · rw [yB hE0]
      first | rw [if_pos hw1] | rw [if_neg (by omega)]
      exact (Oi.r4.swap.GY (sW (fun I a b => JM hs hh hE hE0 b a) _)).Og.right.swap
end
def Jb (m place : Nat) (n : Int) : Nat := (((place : Int) + n) % (m : Int)).toNat
theorem acQ {m place : Nat} {n : Int} (h : 0 < m) : Jb m place n < m := by
  unfold Jb
  have h1 := Int.emod_nonneg ((place : Int) + n) (show (m : Int) ≠ 0 by omega)
  have h2 := Int.emod_lt_of_pos ((place : Int) + n) (show (0 : Int) < m by omega)
  omega
theorem QN (a : Int) {m : Int} (h : 0 < m) : -m < a.tmod m ∧ a.tmod m < m := by
  have h2 := Int.tmod_lt_of_pos a h
  have h3 := Int.tmod_lt_of_pos (-a) h
  rw [Int.neg_tmod] at h3
  omega
theorem PI (a m : Int) : a.tmod m % m = a % m := by
  rw [Int.tmod_def]
  exact Int.sub_mul_emod_self_left a m (a.tdiv m)
theorem aeT (m place : Nat) (n : Int) (h : 0 < m) : (((place : Int) + n.tmod m).tmod m + m).tmod m = (Jb m place n : Int) := by
  have h1 := QN ((place : Int) + n.tmod m) (show (0 : Int) < m by omega)
  have h2 := Int.emod_nonneg ((place : Int) + n) (show (m : Int) ≠ 0 by omega)
  unfold Jb
  rw [Int.toNat_of_nonneg h2, Int.tmod_eq_emod_of_nonneg (by omega), Int.add_emod_right, PI, Int.add_emod, PI, ← Int.add_emod]
section
variable {w0 w : World} {F : HP} {p place : Nat} {E : List (List Int)} {v : Value} {l : List Int} {way : Int}
theorem OB (H : V w0 w (gq p E place • F)) (hr : jh w0 F .i32 v l) :
    iQ prog 199 #[.pointer (some ⟨p, 0, none⟩), .int .i64 way, v] w fun v' w' => v' = .int .i64 (Ei E place way l).1 ∧ V w0 w' (gq p (Ei E place way l).2.1 (Ei E place way l).2.2 • F) := by
  unfold Ei
  by_cases h1 : way < 0 ∨ 2 < way
  · simp only [h1, if_true]; exact Oy H hr h1
  · simp only [h1, if_false]
    by_cases h2 : 1024 < l.length
    · simp only [h2, if_true]; exact LY H hr (by omega) h2
    · simp only [h2, if_false]
      by_cases h3 : way ≠ 0 ∧ 0 < E.length
      · rw [if_pos h3]
        by_cases h4 : 1024 < l.length + (E.getD 0 []).length
        · rw [if_pos h4]; exact OA H hr (by omega) (by omega) h3.2 h4
        · rw [if_neg h4]; exact LZ H hr (by omega) h3.2 (by omega)
      · rw [if_neg h3]
        by_cases h5 : way = 0 ∧ l.length = 0
        · rw [if_pos h5]; obtain ⟨rfl, h6⟩ := h5; exact Hw H hr h6
        · rw [if_neg h5]; exact Oz H hr (by omega) (by omega) (by omega) h5
theorem Jc {n : Int} (H : V w0 w (gq p [] place • F)) :
    iQ prog 87 #[.pointer (some ⟨p, 0, none⟩), .int .i64 n] w fun v' w' => v' = .tuple #[.slice none 0 0, .int .i64 6] ∧ V w0 w' (gq p [] place • F) := by
  obtain ⟨s, h, hs, hh, hE, hp, hm, ho, H1⟩ := H.ring
  have hb := H1.get.2
  refine qc func87 ntmps87 ?_
  refine iy (gU O (uf O (bf (bM O (dS O func140 (lK _ hb BL) ?_)))))
  rintro _ _ ⟨rfl, rfl⟩
  refine dZ O (oh (bM O (dK O (bI 62 dF O ay O (fC aC O hb (pO hs) (aQ (eF O O) (dZ O (wcA O (fun h1 => ?_)))))))))
  (try simp only [Z] at h1)
  refine iy (gU O (fA O (aU (aA (KP results87 O O ?_)))))
  exact ⟨O, H⟩
theorem KC {n : Int} (H : V w0 w (gq p E place • F)) (h0 : 0 < E.length) :
  iQ prog 87 #[.pointer (some ⟨p, 0, none⟩), .int .i64 n] w fun v' w' => ∃ u, v' = .tuple #[u, .int .i64 0] ∧
   V w0 w' (jw 21 .i32 u (E.getD (Jb E.length place n) []) • gq p E (Jb E.length place n) • F) := by
 obtain ⟨s, h, hs, hh, hE, hp, hm, ho, H⟩ := H.ring
 have hb := H.get.2
 have hlt := acQ (place := place) (n := n) h0
 have ahW := aeT E.length place n h0
 have hb1 := QN n (show (0 : Int) < E.length by omega)
 have hb2 := QN ((place : Int) + n.tmod E.length) (show (0 : Int) < E.length by omega)
 refine qc func87 ntmps87 ?_
 refine iy (gU O (uf O (bf (bM O (dS O func140 (lK _ hb BL) ?_)))))
 rintro _ _ ⟨rfl, rfl⟩
 refine dZ O (oh (bM O (dK O (bI 62 dF O ay O (fC aC O hb (pO hs) (aQ (eF O O) (dZ O (VH O (fun h1 => ?_)))))))))
 (try simp only [Z] at h1)
 refine dh (aH (aX (aI ?_)))
 refine rV (n := 30) [0, 1, 2, 3, 4, 5, 6, 7, 8, 9, 10, 11, 12, 13, 14, 15, 16, 17, 18, 19, 20, 21, 22, 23, 24, 25, 26, 27, 28, 29] (fun W => W.heap = w.heap) (by kernel_rfl) (by kernel_rfl) O ?_
 have hS0 : (fun W => W.heap = w.heap) (w.drew) := rfl
 have H5d := H.drew
 refine gX 0 O hS0 O (gX 1 O hS0 O (jE 2 O hS0 O (gy 3 O hS0 63 dF O ay O ?_)))
 refine jf 4 O hS0 (fun W hW => jv aC O (by rw [hW]; exact hb) (LX hs)) ?_
 refine gX 5 O hS0 O (gX 6 O hS0 O (jE 7 O hS0 O (gy 8 O hS0 62 dF O ay O ?_)))
 refine jf 9 O hS0 (fun W hW => jv aC O (by rw [hW]; exact hb) (pO hs)) ?_
 refine iI 10 O hS0 (fun _ => Vx O O (by omega)) (iI 11 O hS0 (fun _ => fQ O O (by omega)) (gX 12 O hS0 O (jE 13 O hS0 O (gy 14 O hS0 62 dF O ay O ?_))))
 refine jf 15 O hS0 (fun W hW => jv aC O (by rw [hW]; exact hb) (pO hs)) ?_
 refine iI 16 O hS0 (fun _ => Vx O O (by omega)) (gX 17 O hS0 O (jE 18 O hS0 O (gy 19 O hS0 62 dF O ay O ?_)))
 refine jf 20 O hS0 (fun W hW => jv aC O (by rw [hW]; exact hb) (pO hs)) ?_
 refine iI 21 O hS0 (fun _ => fQ O O (by omega)) (gX 22 O hS0 O (jE 23 O hS0 O (gy 24 O hS0 62 dF O ay O ?_)))
 refine jf 25 O hS0 (fun W hW => jv aC O (by rw [hW]; exact hb) (pO hs)) ?_
 refine iI 26 O hS0 (fun _ => Vx O O (by omega)) (jE 27 O hS0 O (gy 28 O hS0 63 dF O ay O ?_))
 refine iH 29 O (by kernel_rfl) (kH H5d ay O O O (by rw [oM hs]; decide)) ?_
 rintro _ w2 H2
 rw [ahW, qO hs] at H2
 refine LG (by kernel_rfl) ?_
 refine pq (aX (bM O (oq O O (bI 63 dF O ay O (fC aC O H2.get.2 (LX hs) (dS O func141 (yG hs hh (by omega) H2.get.2) ?_))))))
 rintro _ w3 ⟨rfl, hD2⟩
 have H3 := H2.Bd hD2
 refine Vw (yU (Ag O func71 O O) (oL H3 (fun W HW => HW.right.Eh (i := Jb E.length place n) hlt) (by have := hm (E.getD (Jb E.length place n) []) (by rw [List.getD_eq_getElem?_getD, List.getElem?_eq_getElem hlt]; simp); omega))) (lN O) ?_
 rintro u w4 H4
 refine gU O (fA O (KP results87 O O ?_))
 exact ⟨u, O, (V.zq hs hh hE (.inl hlt) hm ho H4.d3).swap⟩
theorem V.YW {s : List Value} {h : Nat} (H : V w0 w (Df s h E • F)) : V w0 w (Df s h E • Df s h E • F) := H.sQ
theorem YX {s : List Value} {h n p : Nat} (ho : ∀ v ∈ s, v.oneCell' = true) : ∀ v ∈ (dW s h n p).toList, v.oneCell' = true := by
  intro v hv
  simp [dW] at hv
  rcases hv with rfl | hv | rfl | rfl | rfl <;> first | rfl | exact ho v hv
theorem Ej (H : V w0 w (gq p E place • F)) :
    iQ prog 85 #[.pointer (some ⟨p, 0, none⟩)] w fun v' w' => ∃ q, v' = .pointer (some ⟨q, 0, none⟩) ∧ V w0 w' (gq q E place • gq p E place • F) := by
  obtain ⟨s, h, hs, hh, hE, hp, hm, ho, H⟩ := H.ring
  have hb := H.get.2
  refine ji func85 ntmps85 ?_
  refine ku O (aI (bM O (dS O func140 (lK _ hb BL) ?_)))
  rintro _ _ ⟨rfl, rfl⟩
  refine iE (oh (fV (bM O (dK O (aQ (dV dF O sizeOf207 (oM hs) O hb) (kF (Bg H zeroValue207) ?_))))))
  rintro _ w2 ⟨b2, rfl, H2⟩
  refine aJ (iM H2 sizeOf207 (oM hs) O O O (YX ho)) ?_
  rintro _ w3 H3
  refine iE (kC O (dI results85 O ?_))
  exact ⟨_, O, V.zq hs hh hE hp hm ho (V.zq hs hh hE hp hm ho (H3.Og.YW.r4)).swap.Og⟩
end
section
variable {w0 w : World} {F : HP} {p place : Nat} {E : List (List Int)}
theorem VP (H : V w0 w (gq p E place • F)) : E.length ≤ 60 ∧ (place < E.length ∨ place = 0) ∧ ∀ e ∈ E, e.length ≤ 1024 := by
  obtain ⟨s, h, hs, hh, hE, hpl, hE2, hs1, H1⟩ := H.ring
  exact ⟨hE, hpl, hE2⟩
theorem KD {n : Int} (H : V w0 w (gq p E place • F)) : iQ prog 87 #[.pointer (some ⟨p, 0, none⟩), .int .i64 n] w fun v w' => ∃ u, v = .tuple #[u, .int .i64 (if E.length = 0 then 6 else 0)] ∧
    V w0 w' (jw 21 .i32 u (if E.length = 0 then [] else E.getD (Jb E.length place n) []) • gq p E (if E.length = 0 then place else Jb E.length place n) • F) := by
  by_cases h0 : E.length = 0
  · obtain rfl := List.eq_nil_of_length_eq_zero h0
    simp only [List.length_nil, if_true]
    exact (Jc H).mono fun v w' h => ⟨_, h.1, h.2.jO none⟩
  · simp only [if_neg h0]
    exact (KC H (by omega)).mono fun v w' h => h
end
end Go.Proofs.YtpdeedplgmbopaaGreatDoor
end
section
namespace Go.Proofs.YtpdeedplgmbopaaGreatDoor
open Go.RowKit
def DI (I : Hp) (k : IntKind) (vs : List Value) (ls : List (List Int)) : Prop := vs.length = ls.length ∧ ∀ j, j < ls.length → FK I k (vs.getD j undef) (ls.getD j [])
def Em (k : IntKind) (vs : List Value) (ls : List (List Int)) : HP := know (fun I => DI I k vs ls) fun _ _ hl h => ⟨h.1, fun j hj => (h.2 j hj).mono hl⟩
def LL (e : TypeId) (k : IntKind) (v : Value) (ls : List (List Int)) : HP := xQ fun vs => Row e 1 v ls.length vs • Em k vs ls
theorem yC {α : Type _} {l m : List α} {j : Nat} {d : α} (h : j < l.length) : (l ++ m).getD j d = l.getD j d := by simp [List.getD_eq_getElem?_getD, List.getElem?_append_left h]
theorem wZ {α : Type _} {l m : List α} {j : Nat} {d : α} (h : l.length ≤ j) : (l ++ m).getD j d = m.getD (j - l.length) d := by simp [List.getD_eq_getElem?_getD, List.getElem?_append_right h]
theorem PK {α : Type _} {l : List α} {i j : Nat} {d : α} : (l.drop i).getD j d = l.getD (i + j) d := by simp [List.getD_eq_getElem?_getD]
theorem Jd {α : Type _} {l : List α} {i j : Nat} {d : α} (h : j < i) : (l.take i).getD j d = l.getD j d := by simp [List.getD_eq_getElem?_getD, List.getElem?_take, h]
theorem zW {α : Type _} {l : List α} {j : Nat} {d : α} (h : j < l.length) : l.getD j d ∈ l := by rw [List.getD_eq_getElem?_getD, List.getElem?_eq_getElem h]; exact List.getElem_mem h
theorem DI.app {I : Hp} {k : IntKind} {vs us : List Value} {ls ms : List (List Int)} (h : DI I k vs ls) (g : DI I k us ms) : DI I k (vs ++ us) (ls ++ ms) := by
  refine ⟨by simp [h.1, g.1], fun j hj => ?_⟩
  by_cases hl : j < ls.length
  · rw [yC (by rw [h.1]; exact hl), yC hl]; exact h.2 j hl
  · have hj' : j - ls.length < ms.length := by simp at hj; omega
    rw [wZ (by rw [h.1]; omega), wZ (by omega), h.1]; exact g.2 _ hj'
theorem DI.drop {I : Hp} {k : IntKind} {vs : List Value} {ls : List (List Int)} (h : DI I k vs ls) (i : Nat) : DI I k (vs.drop i) (ls.drop i) := by
  refine ⟨by simp [h.1], fun j hj => ?_⟩
  rw [PK, PK]
  exact h.2 _ (by simp at hj; omega)
theorem DI.take {I : Hp} {k : IntKind} {vs : List Value} {ls : List (List Int)} (h : DI I k vs ls) (i : Nat) : DI I k (vs.take i) (ls.take i) := by
  refine ⟨by simp [h.1], fun j hj => ?_⟩
  simp at hj
  rw [Jd (by omega), Jd (by omega)]
  exact h.2 _ (by omega)
theorem FK.one {I : Hp} {k : IntKind} {v : Value} {l : List Int} (h : FK I k v l) : DI I k [v] [l] := ⟨rfl, fun j hj => by
  obtain rfl : j = 0 := by simp at hj; omega
  exact h⟩
theorem FK.aaw {I : Hp} {k : IntKind} {v : Value} {l : List Int} (h : FK I k v l) : v.oneCell' = true := by obtain ⟨a, c, rfl, _⟩ := h; rfl
section
variable {w0 w : World} {F : HP} {e : TypeId} {k : IntKind} {v : Value} {vs us : List Value} {ls ms : List (List Int)} {l : List Int}
theorem V.acR (H : V w0 w (Em k vs ls • F)) {j : Nat} (hj : j < ls.length) : fJ w k (vs.getD j undef) (ls.getD j []) := let ⟨I, h, hI⟩ := H.uZ; (h.2 j hj).rd hI
theorem V.aax (H : V w0 w (Em k vs ls • F)) : vs.length = ls.length := let ⟨I, h, hI⟩ := H.uZ; h.1
theorem V.Tq (H : V w0 w F) : V w0 w (Em k [] [] • F) := H.zn fun I => ⟨rfl, fun j hj => by simp at hj⟩
theorem V.YZ (H : V w0 w (Em k vs ls • pF k v l • F)) : V w0 w (Em k (vs ++ [v]) (ls ++ [l]) • F) := H.GY (sW (fun I h g => h.app g.one) F)
theorem V.ll (H : V w0 w (LL e k v ls • F)) : ∃ vs, V w0 w (Row e 1 v ls.length vs • Em k vs ls • F) := let ⟨vs, h⟩ := H.oN; ⟨vs, h.flat⟩
theorem V.ad4 (H : V w0 w (Row e 1 v ls.length vs • Em k vs ls • F)) : V w0 w (LL e k v ls • F) := V.jV vs H.deep
theorem V.aay {n : Nat} (H : V w0 w (Row e 1 v n vs • Em k vs ls • F)) : V w0 w (LL e k v ls • F) := by
  have h1 := H.yw
  have h2 := H.swap.aax
  obtain rfl : n = ls.length := by omega
  exact H.ad4
theorem Rd.agw {n : Nat} {xs : List Value} (hr : Rd w 1 v n xs) {i : Nat} (h : i ≤ n) : Rd w 1 (sV 1 0 i v) i (xs.take i) := by
  have h1 := hr.cut (Nat.zero_le i) h
  simpa using h1
end
theorem aaz {α : Type _} {enc : α → List Value} {sz : Nat} (he : ∀ a, (enc a).length = sz) (l : List α) : (l.flatMap enc).length = l.length * sz := by
  induction l with
  | nil => simp
  | cons a l ih => simp [he, ih, Nat.add_mul, Nat.add_comm]
theorem xY {α : Type _} {enc : α → List Value} {sz : Nat} (he : ∀ a, (enc a).length = sz) {l : List α} {k : Nat} (hk : k < l.length) (d : α) : ((l.flatMap enc).drop (k * sz)).take sz = enc (l.getD k d) := by
  have h1 : l = l.take k ++ l.getD k d :: l.drop (k + 1) := by
    rw [List.getD_eq_getElem?_getD, List.getElem?_eq_getElem hk]
    simp
  have h2 : ((l.take k).flatMap enc).length = k * sz := by rw [aaz he, List.length_take, Nat.min_eq_left (by omega)]
  conv => lhs; rw [h1]
  rw [List.flatMap_append, List.drop_append, h2]
  simp [h2, List.take_append, he]
theorem vP {P : Program} {L : List (Nat × Value)} {w : World} {ty : TypeId} {x : Operand} {t : TypeId} {d : TypeDesc} {b o n c sz n' k : Nat} {xs ys : List Value} (hr : Rd w sz (.slice (some ⟨b, o, none⟩) n c) n' xs) (hk : k < n') (hu : P.underlying t = some d) (hd : QB d = true) (hs : ∀ w, (sizeOf t).run P w = .ok sz w)
    (hx : ev L x = some (.pointer (some ⟨b, o + (k : Int).toNat * sz, none⟩))) (hy : (xs.drop (k * sz)).take sz = ys) (hl : ys.length = sz) : Val P L (.load t x) ty w (.agg ys.toArray) w :=
  CZ (by rw [hu]; rfl) (Px hu hd) hs hl hx (fun j u hj => by
    have hjl : j < sz := by rw [← hl]; exact (List.getElem?_eq_some_iff.1 hj).1
    rw [hr.atS hk hjl, List.getD_eq_getElem?_getD]
    rw [← hy, List.getElem?_take, if_pos hjl, List.getElem?_drop] at hj
    rw [hj]; rfl)
end Go.Proofs.YtpdeedplgmbopaaGreatDoor
end
section
namespace Go.Proofs.YtpdeedplgmbopaaGreatDoor
open Go.RowKit
open _root_.Go.Proofs.Tryz
section
variable {w0 w : World} {F : HP} {v d s z d2 z2 u1 u2 u3 : Value} {L dl il dl2 il2 l1 l2 l3 : List Int} {a a2 : Int}
def ahX (L : List Int) (a : Int) (dl : List Int) : Bool := decide (0 ≤ a ∧ a + dl.length ≤ L.length) && ((L.drop a.toNat).take dl.length == dl)
def uE (L : List Int) (a : Int) (dl il : List Int) : Int := if ahX L a dl then (if 1024 < (L.length : Int) - dl.length + il.length then 3 else 0) else 1
def uL (L : List Int) (a : Int) (dl il : List Int) : List Int := if uE L a dl il = 0 then L.take a.toNat ++ il ++ L.drop (a.toNat + dl.length) else []
abbrev edV (a : Int) (d z : Value) : Value := .agg #[.int .i64 a, d, z]
theorem zu (H : V w0 w F) (hd : jh w0 F .i32 d dl) (hi : jh w0 F .i32 z il) (b2 : dl.length ≤ 35184372087808) (b3 : il.length ≤ 35184372087808) :
  iQ prog 179 #[edV a d z] w fun v' w' => ∃ d' s', v' = edV a d' s' ∧ V w0 w' (jw 21 .i32 d' dl • jw 21 .i32 s' il • F) := by
 refine ji func179 ntmps179 ?_
 refine iy (kF (jF (l := [_, _, _]) H O O) ?_)
 rintro _ w1 ⟨b1, rfl, H1⟩
 refine kF (iR (l := [_, _, _]) H1 dY O) ?_
 rintro _ w2 ⟨b2, rfl, H2⟩
 refine rP ?_
 have aaA := H2.drew
 have Ce := V.kp (aaA.f2.f2)
 refine uN [1, 3, 6] Ce O (gy 0 O Ce 0 bD O ay O (jf 1 O Ce (fun W hW => jv aC O ((Kp.h hW).f2).get.2 O) (gy 2 O Ce 1 bD O bV O (jf 3 O Ce (fun W hW => jv ah O ((Kp.h hW).f2).get.2 O) (gy 5 O Ce 2 bD O bV O (jf 6 O Ce (fun W hW => jv ah O ((Kp.h hW).f2).get.2 O) (mQ 4 O (wR O func71 (oL aaA (fun W HW => hd _ (HW.right.right)) (by omega))) ?_)))))))
 rintro u3 w3 H3
 have Bc := V.kp (H3.f3.f3.f3)
 refine fD Bc (fun W hW => (Kp.h hW).right.f2.f2) ?_
 refine mQ 7 O (wR O func71 (oL H3 (fun W HW => hi _ (HW.right.right.right)) (by omega))) ?_
 rintro u4 w4 H4
 have BN := V.kp (H4.f4.f4.f4.f4)
 refine fD BN (fun W hW => (Kp.h hW).right.f3.f3.f3) ?_
 obtain ⟨au3, cu3, eu3, -⟩ := fJ.open ((H4.f2).aP)
 subst eu3
 obtain ⟨au4, cu4, eu4, -⟩ := fJ.open ((H4).aP)
 subst eu4
 refine iI 8 O BN (fun _ => nP (pl := #[(0, 1), (1, 1), (2, 1)]) (#[_, _, _]) bD dY (fun w => by kernel_rfl) O (O)) ?_
 refine iH 9 O (by kernel_rfl) (dG 0 (l' := [_, _, _]) (us := [_, _, _]) H4.f3 dn O O O (aG (bg (by first | rfl | exact Rd.one ((H4.f2).aP)) (bg (by first | rfl | exact Rd.one ((H4).aP)) bW))) O O) ?_
 rintro _ w7 H7
 have En := V.kp (H7.f4.f4.f4.f4)
 refine iK En (by kernel_rfl) ?_
 refine pq (aX (lQ ?_))
 refine sS (.inl O) (QA results179 O bD O (by rw [uI]; rfl) (H7).get.2) ?_
 exact ⟨_, _, O, H7.right.f3.right.f2⟩
theorem Je (H : V w0 w F) (hd : jh w0 F .i32 d dl) (hi : jh w0 F .i32 z il) (b2 : dl.length ≤ 35184372087808) (b3 : il.length ≤ 35184372087808) :
  iQ prog 198 #[edV a d z] w fun v' w' => ∃ d' s', v' = edV a d' s' ∧ V w0 w' (jw 21 .i32 d' il • jw 21 .i32 s' dl • F) := by
 refine ji func198 ntmps198 ?_
 refine iy (kF (jF (l := [_, _, _]) H O O) ?_)
 rintro _ w1 ⟨b1, rfl, H1⟩
 refine kF (iR (l := [_, _, _]) H1 dY O) ?_
 rintro _ w2 ⟨b2, rfl, H2⟩
 refine zk7 (bI 0 bD O ay O (fC aC O (H2.f2).get.2 O (bI 2 bD O bV O (fC ah O (H2.f2).get.2 O (bI 1 bD O bV O (fC ah O (H2.f2).get.2 O ?_))))))
 obtain ⟨az, cz, ez, -⟩ := fJ.open (hi _ (H2.right.right))
 subst ez
 obtain ⟨ad, cd, ed, -⟩ := fJ.open (hd _ (H2.right.right))
 subst ed
 refine aQ (nP (pl := #[(0, 1), (1, 1), (2, 1)]) (#[_, _, _]) bD dY (fun w => by kernel_rfl) O (O)) (dS O func179 (zu H2 (fun W HW => hi _ (HW.right.right)) (fun W HW => hd _ (HW.right.right)) (by omega) (by omega)) ?_)
 rintro _ w5 ⟨d5, s5, rfl, H5⟩
 refine aJ (dG 0 (l' := [_, _, _]) (us := [_, _, _]) H5.f3 dn O O O (aG (bg (by first | rfl | exact Rd.one ((H5).aP)) (bg (by first | rfl | exact Rd.one ((H5.f2).aP)) bW))) O O) ?_
 rintro _ w6 H6
 refine zkc ?_
 refine sS (.inl O) (QA results198 O bD O (by rw [uI]; rfl) (H6).get.2) ?_
 exact ⟨_, _, O, H6.right.f3.right.f2.f2⟩
end
end Go.Proofs.YtpdeedplgmbopaaGreatDoor
end
section
namespace Go.Proofs.YtpdeedplgmbopaaGreatDoor
open Go.RowKit
section
variable {w0 w : World} {F : HP} {v d s z d2 z2 u1 u2 u3 : Value} {L dl il dl2 il2 l1 l2 l3 : List Int} {a a2 : Int}
def jK (a a2 : Int) (dl il dl2 il2 : List Int) : Nat := if dl2.length = 0 ∧ a2 = a + il.length then 1 else if il.length = 0 ∧ il2.length = 0 ∧ a = a2 + dl2.length then 2 else 0
def jA (k : Nat) (a a2 : Int) : Int := if k = 1 then a else if k = 2 then a2 else 0
def jD (k : Nat) (dl dl2 : List Int) : List Int := if k = 1 then dl else if k = 2 then dl2 ++ dl else []
def jI (k : Nat) (il il2 : List Int) : List Int := if k = 1 then il ++ il2 else []
end
structure fM where
  a : Int
  d : Value
  dl : List Int
  i : Value
  il : List Int
instance : Inhabited fM := ⟨⟨0, .slice none 0 0, [], .slice none 0 0, []⟩⟩
def fM.enc (e : fM) : List Value := [.int .i64 e.a, e.d, e.i]
theorem fM.Fa (e : fM) : e.enc.length = 3 := rfl
def fM.Imm (I : Hp) (e : fM) : Prop := FK I .i32 e.d e.dl ∧ FK I .i32 e.i e.il
theorem fM.Imm.mono {I I' : Hp} {e : fM} (hl : Hp.le I I') (h : e.Imm I) : e.Imm I' := ⟨h.1.mono hl, h.2.mono hl⟩
def fM.says (e : fM) : Int × List Int × List Int := (e.a, e.dl, e.il)
def KE (I : Hp) (es : List fM) : Prop := ∀ k, k < es.length → (es.getD k default).Imm I
theorem KE.mono {I I' : Hp} {es : List fM} (hl : Hp.le I I') (h : KE I es) : KE I' es := fun k hk => (h k hk).mono hl
theorem KE.app {I : Hp} {es fs : List fM} (h : KE I es) (g : KE I fs) : KE I (es ++ fs) := fun k hk => by
  by_cases hl : k < es.length
  · rw [yC hl]; exact h k hl
  · rw [wZ (by omega)]; exact g _ (by simp at hk; omega)
theorem KE.one {I : Hp} {e : fM} (h : e.Imm I) : KE I [e] := fun k hk => by
  obtain rfl : k = 0 := by simp at hk; omega
  exact h
def nC (es : List fM) : HP := know (fun I => KE I es) fun _ _ hl h => h.mono hl
def edK (e : fM) : HP := know (fun I => e.Imm I) fun _ _ hl h => h.mono hl
def Oj (v : Value) (es : List fM) : HP := Row 189 3 v es.length (es.flatMap fM.enc) • nC es
def FN (I : Hp) (sz : Nat) (v : Value) (n : Nat) (xs : List Value) : Prop := xs.length = n * sz ∧ ∃ a c, v = .slice a n c ∧ n ≤ c ∧ (c : Int) ≤ 9223372036854775807 ∧
  (0 < n → ∃ b o cs e fr, a = some ⟨b, o, none⟩ ∧ I b = some (.cells cs e fr) ∧ ∀ j, j < n * sz → cs[o + j]? = some (xs.getD j undef))
theorem FN.mono {I I' : Hp} {sz n : Nat} {v : Value} {xs : List Value} (hl : Hp.le I I') (h : FN I sz v n xs) : FN I' sz v n xs := by
  obtain ⟨h0, a, c, h1, h2, h3, h4⟩ := h
  exact ⟨h0, a, c, h1, h2, h3, fun hp => let ⟨b, o, cs, e, fr, e1, e2, e3⟩ := h4 hp; ⟨b, o, cs, e, fr, e1, hl _ _ e2, e3⟩⟩
theorem FN.rd {w : World} {m : Nat} {I : Hp} {sz n : Nat} {v : Value} {xs : List Value} (h : FN I sz v n xs) (hI : ∀ k o, I k = some o → m ≤ k ∧ w.heap[k]? = some o) : Rd w sz v n xs := by
  obtain ⟨h0, a, c, h1, h2, h3, h4⟩ := h
  exact ⟨h0, a, c, h1, h2, h3, fun hp => let ⟨b, o, cs, e, fr, e1, e2, e3⟩ := h4 hp; ⟨b, o, e1, fun j hj => kS (hI _ _ e2).2 (e3 j hj)⟩⟩
theorem FN.aaw {I : Hp} {sz n : Nat} {v : Value} {xs : List Value} (h : FN I sz v n xs) : v.oneCell' = true := by obtain ⟨_, a, c, rfl, _⟩ := h; rfl
def ElI (I : Hp) (v : Value) (es : List fM) : Prop := FN I 3 v es.length (es.flatMap fM.enc) ∧ KE I es
theorem ElI.mono {I I' : Hp} {v : Value} {es : List fM} (hl : Hp.le I I') (h : ElI I v es) : ElI I' v es := ⟨h.1.mono hl, h.2.mono hl⟩
def FY (v : Value) (es : List fM) : HP := know (fun I => ElI I v es) fun _ _ hl h => h.mono hl
def Gt (I : Hp) (gs : List (Value × List fM)) : Prop := ∀ k, k < gs.length → ElI I (gs.getD k default).1 (gs.getD k default).2
theorem Gt.mono {I I' : Hp} {gs : List (Value × List fM)} (hl : Hp.le I I') (h : Gt I gs) : Gt I' gs := fun k hk => (h k hk).mono hl
theorem Gt.app {I : Hp} {es fs : List (Value × List fM)} (h : Gt I es) (g : Gt I fs) : Gt I (es ++ fs) := fun k hk => by
  by_cases hl : k < es.length
  · rw [yC hl]; exact h k hl
  · rw [wZ (by omega)]; exact g _ (by simp at hk; omega)
theorem Gt.one {I : Hp} {v : Value} {es : List fM} (h : ElI I v es) : Gt I [(v, es)] := fun k hk => by
  obtain rfl : k = 0 := by simp at hk; omega
  exact h
theorem Gt.take {I : Hp} {gs : List (Value × List fM)} (h : Gt I gs) (n : Nat) : Gt I (gs.take n) := fun k hk => by
  simp at hk
  rw [Jd (by omega)]
  exact h k (by omega)
def qP (gs : List (Value × List fM)) : HP := know (fun I => Gt I gs) fun _ _ hl h => h.mono hl
def Gu (v : Value) (gs : List (Value × List fM)) : HP := Row 80 1 v gs.length (gs.map (·.1)) • qP gs
section
variable {w0 w : World} {F : HP} {v u : Value} {es fs : List fM} {e : fM} {gs : List (Value × List fM)} {a : Int} {d i : Value} {dl il : List Int}
theorem V.L6 (H : V w0 w F) : V w0 w (nC [] • F) := H.zn fun I k hk => by simp at hk
theorem V.L8 (H : V w0 w F) : V w0 w (qP [] • F) := H.zn fun I k hk => by simp at hk
theorem V.vk (H : V w0 w F) (a : Option Addr) : V w0 w (Oj (.slice a 0 0) [] • F) := (H.L6.jO (e := 189) (sz := 3) a).deep
theorem V.Hy (H : V w0 w F) (a : Option Addr) : V w0 w (Gu (.slice a 0 0) [] • F) := (H.L8.jO (e := 80) (sz := 1) a).deep
theorem V.edL (H : V w0 w (Oj v es • F)) : V w0 w (Row 189 3 v es.length (es.flatMap fM.enc) • nC es • F) := H.flat
theorem V.acS (H : V w0 w (Gu v gs • F)) : V w0 w (Row 80 1 v gs.length (gs.map (·.1)) • qP gs • F) := H.flat
theorem V.Ci (H : V w0 w (Row 189 3 v (es.length + 1) (es.flatMap fM.enc ++ [.int .i64 a, d, i]) • pF .i32 d dl • pF .i32 i il • nC es • F)) : V w0 w (Oj v (es ++ [⟨a, d, dl, i, il⟩]) • F) := by
  have h1 : V w0 w (pF .i32 d dl • pF .i32 i il • nC es • Row 189 3 v (es.length + 1) (es.flatMap fM.enc ++ [.int .i64 a, d, i]) • F) := H.of_eq (by ac_rfl)
  have h2 : V w0 w (edK ⟨a, d, dl, i, il⟩ • nC es • Row 189 3 v (es.length + 1) (es.flatMap fM.enc ++ [.int .i64 a, d, i]) • F) := h1.GY (sW (fun I h g => ⟨h, g⟩) _)
  have h3 : V w0 w (nC (es ++ [⟨a, d, dl, i, il⟩]) • Row 189 3 v (es.length + 1) (es.flatMap fM.enc ++ [.int .i64 a, d, i]) • F) := h2.GY (sW (fun I h g => g.app (KE.one h)) _)
  refine V.deep (h3.swap.of_eq ?_)
  rw [List.length_append, List.flatMap_append]
  simp [fM.enc]
theorem V.tq (H : V w0 w (Oj v es • F)) : V w0 w (FY v es • F) := by
  have hl := H.edL.yw
  have H := H.edL
  rcases H.uO with ⟨a, rfl, h1, h2, H1⟩ | ⟨g, o, c, cur, rfl, h2, h3, h4, h5, H1⟩
  · refine H1.GY (rX (fun I hI => ⟨⟨hl, a, 0, by rw [h1], by omega, by decide, fun h => by omega⟩, hI⟩) F)
  · exact H1.freeze.GY (sW (fun I hI hE => ⟨⟨hl, _, c, rfl, h2, h3, fun _ => ⟨g, o, cur, _, (0, 0), rfl, hI, h5⟩⟩, hE⟩) F)
theorem V.yV (H : V w0 w (FY v es • F)) : Rd w 3 v es.length (es.flatMap fM.enc) := let ⟨I, h, hI⟩ := H.uZ; h.1.rd hI
theorem V.agx (H : V w0 w (FY v es • F)) {k : Nat} (hk : k < es.length) : fJ w .i32 (es.getD k default).d (es.getD k default).dl := let ⟨I, h, hI⟩ := H.uZ; (h.2 k hk).1.rd hI
theorem V.agy (H : V w0 w (FY v es • F)) {k : Nat} (hk : k < es.length) : fJ w .i32 (es.getD k default).i (es.getD k default).il := let ⟨I, h, hI⟩ := H.uZ; (h.2 k hk).2.rd hI
theorem V.Tt (H : V w0 w (qP gs • F)) {k : Nat} (hk : k < gs.length) : V w0 w (FY (gs.getD k default).1 (gs.getD k default).2 • qP gs • F) := H.sQ.GY (rX (fun I h => h k hk) _)
theorem V.Tv (H : V w0 w (qP gs • F)) (n : Nat) : V w0 w (qP (gs.take n) • F) := H.GY (rX (fun I h => h.take n) _)
theorem V.vS (H : V w0 w (Row 80 1 v (gs.length + 1) (gs.map (·.1) ++ [u]) • FY u es • qP gs • F)) : V w0 w (Gu v (gs ++ [(u, es)]) • F) := by
  have h1 : V w0 w (FY u es • qP gs • Row 80 1 v (gs.length + 1) (gs.map (·.1) ++ [u]) • F) := H.of_eq (by ac_rfl)
  have h3 : V w0 w (qP (gs ++ [(u, es)]) • Row 80 1 v (gs.length + 1) (gs.map (·.1) ++ [u]) • F) := h1.GY (sW (fun I h g => g.app (Gt.one h)) _)
  refine V.deep (h3.swap.of_eq ?_)
  rw [List.length_append, List.map_append]
  rfl
theorem V.Eo (H : V w0 w (nC es • F)) : ∀ x ∈ es.flatMap fM.enc, x.oneCell' = true := by
  obtain ⟨I, h, hI⟩ := H.uZ
  intro x hx
  obtain ⟨e, he, hx⟩ := List.mem_flatMap.1 hx
  obtain ⟨k, hk, rfl⟩ := List.getElem_of_mem he
  have := h k hk
  rw [List.getD_eq_getElem?_getD, List.getElem?_eq_getElem hk] at this
  simp [fM.enc] at hx
  rcases hx with rfl | rfl | rfl
  · rfl
  · exact this.1.aaw
  · exact this.2.aaw
end
end Go.Proofs.YtpdeedplgmbopaaGreatDoor
end
