import Derived.Test.YtgndbccogcofjaaGreatDoorZ2
import Derived.Test.YtgndbccogcofjaaGreatDoorZ7
import Derived.Test.YtgndbccogcofjaaGreatDoorZ4
import Derived.Test.YtgndbccogcofjaaGreatDoorZ3
set_option linter.unusedSimpArgs false
set_option linter.unusedVariables false
/- Texts of mine, joined, their names in short: Ring Ring2 Ring3 RingAny LL Flat Undo1 Undo2. -/
section
namespace Go.Proofs.YtgndbccogcofjaaGreatDoor
open Go.RowKit
open _root_.Go.Proofs.Tryz
def bJ (s : List Value) (h n p : Nat) : Array Value := (Value.bool true :: (s ++ [.int .i64 h, .int .i64 n, .int .i64 p])).toArray
section
variable {s : List Value} {h n p : Nat}
theorem gG (hs : s.length = 60) : (bJ s h n p).size = 64 := by simp [bJ, hs]
theorem rU : (bJ s h n p)[0]? = some (.bool true) := by simp [bJ]
theorem Dl (hs : s.length = 60) {i : Nat} (hi : i < 60) : (bJ s h n p)[1 + i]? = some (s.getD i undef) := by
  simp [bJ, Nat.add_comm 1 i, List.getElem?_append_left (show i < s.length by omega), List.getD_eq_getElem?_getD, show i < s.length by omega]
theorem qN (hs : s.length = 60) : (bJ s h n p)[61]? = some (.int .i64 h) := by simp [bJ, hs]
theorem iR (hs : s.length = 60) : (bJ s h n p)[62]? = some (.int .i64 n) := by simp [bJ, hs]
theorem Aj (hs : s.length = 60) : (bJ s h n p)[63]? = some (.int .i64 p) := by simp [bJ, hs]
theorem BR (hs : s.length = 60) (x : Nat) : (bJ s h n p).setIfInBounds 61 (.int .i64 x) = bJ s x n p := by
  apply Array.ext'; simp [bJ, List.set_append, hs]
theorem BU (hs : s.length = 60) (x : Nat) : (bJ s h n p).setIfInBounds 62 (.int .i64 x) = bJ s h x p := by
  apply Array.ext'; simp [bJ, List.set_append, hs]
theorem gQ (hs : s.length = 60) (x : Nat) : (bJ s h n p).setIfInBounds 63 (.int .i64 x) = bJ s h n x := by
  apply Array.ext'; simp [bJ, List.set_append, hs]
theorem qy (hs : s.length = 60) {i : Nat} (hi : i < 60) (v : Value) : (bJ s h n p).setIfInBounds (1 + i) v = bJ (s.set i v) h n p := by
  apply Array.ext'; simp [bJ, Nat.add_comm 1 i, List.set_append, hs, hi]
end
def FP (I : Hp) (s : List Value) (h : Nat) (E : List (List Int)) : Prop := ∀ i, i < E.length → uK I .i32 (s.getD ((h + i) % 60) undef) (E.getD i [])
def rV (s : List Value) (h : Nat) (E : List (List Int)) : HP := know (fun I => FP I s h E) fun _ _ hl hk i hi => (hk i hi).mono hl
def bY (p : Nat) (E : List (List Int)) (place : Nat) : HP := qo fun (x : List Value × Nat) =>
  fact (x.1.length = 60 ∧ x.2 < 60 ∧ E.length ≤ 60 ∧ (place < E.length ∨ place = 0) ∧ (∀ e ∈ E, e.length ≤ 1024) ∧ ∀ v ∈ x.1, v.oneCell' = true) • dh p (.cells (bJ x.1 x.2 E.length place) 170 (0, 0)) • rV x.1 x.2 E
section
variable {w0 w : World} {F : HP} {p place : Nat} {E : List (List Int)}
theorem aB.ring (H : aB w0 w (bY p E place • F)) : ∃ s h, s.length = 60 ∧ h < 60 ∧ E.length ≤ 60 ∧ (place < E.length ∨ place = 0) ∧ (∀ e ∈ E, e.length ≤ 1024) ∧ (∀ v ∈ s, v.oneCell' = true) ∧ aB w0 w (dh p (.cells (bJ s h E.length place) 170 (0, 0)) • rV s h E • F) := by
  obtain ⟨⟨s, h⟩, H⟩ := H.kH
  obtain ⟨⟨h1, h2, h3, h4, h5, h6⟩, H⟩ := H.flat.fact
  exact ⟨s, h, h1, h2, h3, h4, h5, h6, H.flat⟩
theorem aB.lD {s : List Value} {h : Nat} (h1 : s.length = 60) (h2 : h < 60) (h3 : E.length ≤ 60) (h4 : place < E.length ∨ place = 0) (h5 : ∀ e ∈ E, e.length ≤ 1024) (h6 : ∀ v ∈ s, v.oneCell' = true) (H : aB w0 w (dh p (.cells (bJ s h E.length place) 170 (0, 0)) • rV s h E • F)) : aB w0 w (bY p E place • F) :=
  aB.gy (s, h) (aB.deep (aB.je ⟨h1, h2, h3, h4, h5, h6⟩ H.deep))
theorem Ed (H : aB w0 w F) : eG prog 109 #[] w fun v w' => ∃ p, v = .pointer (some ⟨p, 0, none⟩) ∧ aB w0 w' (bY p [] 0 • F) := by
 refine fP func109 ntmps109 ?_
 dsimp only [aX, Nat.reduceAdd]
 refine ay (ah (aV rfl (aA (aj (ay (ah (aW (dS (pl := #[(0, 1), (1, 60), (61, 1), (62, 1), (63, 1)]) (bJ (List.replicate 60 (.slice none 0 0)) 0 0 0) underlying170 zeroValue170 (fun w => by kernel_rfl) rfl (by kernel_rfl)) (jo (Jk H rfl) ?_))))))))
 rintro _ w1 ⟨b1, rfl, H1⟩
 refine aV rfl (aA (aj (aJ (aH (.inl rfl) results109 rfl ?_))))
 refine ⟨b1, rfl, aB.lD (s := List.replicate 60 (.slice none 0 0)) (h := 0) (by simp) (by omega) (by simp) (.inr rfl) (by simp) (by intro v hv; rw [List.eq_of_mem_replicate hv]; rfl) ?_⟩
 exact aB.swap (aB.DX (fun I i hi => by simp at hi) H1)
theorem gJ (t : TypeId) {cs : Array Value} {fr : Nat × Nat} {m : Bool} (hb : w.heap[p]? = some (.cells cs t fr)) (h0 : cs[0]? = some (.bool m)) :
  eG prog 177 #[.pointer (some ⟨p, 0, none⟩)] w fun v w' => v = .bool (!m) ∧ w = w' := by
 refine fP func177 ntmps177 ?_
 dsimp only [aX, Nat.reduceAdd]
 refine ay (ah (aV rfl (aA (aj (ay (ah (aO rfl (aW (fO underlying28 rfl rfl) (fV rfl (fun h => by exfalso; (try simp only [aI] at h); simp at h) (fun h1 => ?_))))))))))
 (try simp only [aI] at h1)
 refine bf (aO rfl (bf (bK rfl (bf (aZ 0 underlying170 rfl sizeOf4 rfl (bf (dP underlying4 rfl hb h0 (bf (aW (kC rfl) (eY rfl rfl (aV rfl (aA (aj (aJ (aH (.inl rfl) results177 rfl ?_)))))))))))))))
 exact ⟨rfl, rfl⟩
theorem aB.tJ {s : List Value} {h i : Nat} (H : aB w0 w (rV s h E • F)) (hi : i < E.length) : jV w .i32 (s.getD ((h + i) % 60) undef) (E.getD i []) := let ⟨I, k, hI⟩ := H.rF; (k i hi).rd hI
theorem nM {s : List Value} {h n m : Nat} {t : TypeId} {fr : Nat × Nat} {k : Nat} (hs : s.length = 60) (hh : h < 60) (hk : k < 60) (hb : w.heap[p]? = some (.cells (bJ s h n m) t fr)) :
  eG prog 179 #[.pointer (some ⟨p, 0, none⟩), .int .i64 k] w fun v w' => v = s.getD ((h + k) % 60) undef ∧ sU w w' := by
 refine fP func179 ntmps179 ?_
 dsimp only [aX, Nat.reduceAdd]
 refine ay (ah (aV rfl (aA (aj (ay ?_)))))
 refine jE (n := 13) [0, 1, 2, 3, 4, 5, 6, 7, 8, 9, 10, 11, 12] (fun W => W.heap = w.heap) (by kernel_rfl) (by kernel_rfl) rfl ?_
 have hS0 : (fun W => W.heap = w.heap) (w.drew) := rfl
 refine iq 0 rfl hS0 rfl (iq 1 rfl hS0 rfl (jv 2 rfl hS0 rfl (fU 3 rfl hS0 61 underlying170 rfl sizeOf3 rfl ?_)))
 refine iV 4 rfl hS0 (fun W hW => jr underlying3 rfl (by rw [hW]; exact hb) (qN hs)) ?_
 refine iq 5 rfl hS0 rfl (iU 6 rfl hS0 (fun _ => fQ rfl rfl (by omega)) ?_)
 refine iU 7 rfl hS0 (fun _ => P8 rfl rfl (by omega) (by  omega)) ?_
 refine jv 8 rfl hS0 rfl (fU 9 rfl hS0 1 underlying170 rfl sizeOf168 rfl (iU 10 rfl hS0 (fun _ => pO underlying168 sizeOf22 rfl rfl (by omega)) ?_))
 refine iV 11 rfl hS0 (fun W hW => jr underlying22 rfl (by rw [hW]; exact hb) (by rw [show (1 + (((h : Int) + (k : Int)) % 60).toNat * 1) = 1 + (h + k) % 60 from by omega]; exact Dl hs (by omega))) ?_
 refine iU 12 rfl hS0 (fun _ => fZ rfl) (oV (aj (aJ (aH (.inl rfl) results179 rfl ?_))))
 exact ⟨rfl, ⟨1, rfl⟩⟩
theorem Ee {s : List Value} {u : Value} {i : Nat} (h : ∀ v ∈ s, v.oneCell' = true) (hu : u.oneCell' = true) : ∀ v ∈ s.set i u, v.oneCell' = true := by
  intro v hv
  rcases List.mem_or_eq_of_mem_set hv with hv | rfl
  · exact h v hv
  · exact hu
theorem Ia {I : Hp} {s : List Value} {h : Nat} {l : List Int} {v : Value} (hs : s.length = 60) (hh : h < 60) (hE : E.length ≤ 60) (hS : FP I s h E) (hv : uK I .i32 v l) :
    FP I (s.set ((h + 59) % 60) v) ((h + 59) % 60) ((l :: E).take 60) := by
  intro i hi
  have ZN : i < 60 ∧ i < E.length + 1 := by simp at hi; omega
  rw [List.getD_eq_getElem?_getD (l := (l :: E).take 60), List.getElem?_take, if_pos (by omega)]
  cases i with
  | zero =>
    have e : ((h + 59) % 60 + 0) % 60 = (h + 59) % 60 := by omega
    rw [e, List.getD_eq_getElem?_getD, List.getElem?_set_self (by omega)]
    exact hv
  | succ i =>
    have e : ((h + 59) % 60 + (i + 1)) % 60 = (h + i) % 60 := by omega
    have hne : ¬ (h + 59) % 60 = (h + i) % 60 := by omega
    rw [e, List.getD_eq_getElem?_getD, List.getElem?_set_ne hne, ← List.getD_eq_getElem?_getD]
    have := hS i (by omega)
    simpa [List.getD_eq_getElem?_getD] using this
theorem nC {v : Value} {l : List Int} (H : aB w0 w (bY p E place • F)) (hr : iD w0 F .i32 v l) (hl : l.length ≤ 1024) :
    eG prog 245 #[.pointer (some ⟨p, 0, none⟩), v] w fun _ w' => aB w0 w' (bY p ((l :: E).take 60) 0 • F) := by
  obtain ⟨s, h, hs, hh, hE, hp, hm, ho, H⟩ := H.ring
  have hh' : (h + 59) % 60 < 60 := by omega
  refine fP func245 ntmps245 ?_
  dsimp only [aX, Nat.reduceAdd]
  refine ay (ah (aO rfl (aO rfl (bK rfl (aZ 61 underlying170 rfl sizeOf3 rfl (dP underlying3 rfl H.get.2 (qN hs) (aW (fQ rfl rfl (by omega)) (aW (gU rfl rfl (by omega)) ?_))))))))
  refine aW (P8 rfl rfl (by omega) (by  omega)) ?_
  refine bK rfl (aZ 61 underlying170 rfl sizeOf3 rfl (aG (dA H sizeOf3 rfl rfl rfl (by rw [gG hs]; decide)) ?_))
  rintro _ w1 H1
  rw [show (((h : Int) + 60 - 1) % 60) = (((h + 59) % 60 : Nat) : Int) from by omega, BR hs] at H1
  refine aA (aj (ay ?_))
  refine jE (n := 11) [0, 1, 2, 3, 4, 5, 6, 7, 8, 9, 10] (fun W => W.heap[p]? = some (.cells (bJ s ((h + 59) % 60) E.length place) 170 (0, 0))) (by kernel_rfl) (by kernel_rfl) rfl ?_
  have hS0 : (fun W => W.heap[p]? = some (.cells (bJ s ((h + 59) % 60) E.length place) 170 (0, 0))) (w1.drew) := H1.get.2
  have ZO := H1.drew
  refine iq 0 rfl hS0 rfl (iq 1 rfl hS0 rfl (jv 2 rfl hS0 rfl (fU 3 rfl hS0 61 underlying170 rfl sizeOf3 rfl (iV 4 rfl hS0 (fun W hW => jr underlying3 rfl hW (qN hs)) (iq 5 rfl hS0 rfl (jv 7 rfl hS0 rfl (fU 8 rfl hS0 1 underlying170 rfl sizeOf168 rfl (jB 6 rfl (vK rfl func178 (kN ZO hr.under.under (by omega))) ?_))))))))
  rintro u w2 H2
  have hS2 : (fun W => W.heap[p]? = some (.cells (bJ s ((h + 59) % 60) E.length place) 170 (0, 0))) w2 := H2.swap.get.2
  refine wH hS2 ?_
  refine iU 9 rfl hS2 (fun _ => pO underlying168 sizeOf22 rfl rfl (by omega)) ?_
  refine eP 10 rfl (by kernel_rfl) (dA H2.swap sizeOf22 rfl rfl H2.aT.one (by rw [gG hs]; omega)) ?_
  rintro _ w3 H3
  rw [show (1 + ((((h + 59) % 60 : Nat) : Int)).toNat * 1) = 1 + (h + 59) % 60 from by omega, qy hs hh'] at H3
  have hs' : (s.set ((h + 59) % 60) u).length = 60 := by simp [hs]
  have ho' := Ee ho (u := u) (i := (h + 59) % 60) H2.aT.one
  refine zK (by kernel_rfl) ?_
  refine oV (aj (ay (ah (aO rfl (aO rfl (bK rfl (aZ 62 underlying170 rfl sizeOf3 rfl (dP underlying3 rfl H3.get.2 (iR hs') (aW (fQ rfl rfl (by omega)) (aW (Qb rfl rfl) (bK rfl (aZ 62 underlying170 rfl sizeOf3 rfl (aG (dA H3 sizeOf3 rfl rfl rfl (by rw [gG hs']; decide)) ?_)))))))))))))
  rintro _ w4 H4
  rw [show min ((E.length : Int) + 1) 60 = ((min (E.length + 1) 60 : Nat) : Int) from by omega, BU hs'] at H4
  refine aA (aj (ah (aO rfl (bK rfl (aZ 63 underlying170 rfl sizeOf3 rfl (aG (dA H4 sizeOf3 rfl rfl rfl (by rw [gG hs']; decide)) ?_))))))
  rintro _ w5 H5
  rw [show (Value.int .i64 0) = .int .i64 ((0 : Nat) : Int) from rfl, gQ hs'] at H5
  refine aA (fF (.inr rfl) results245 ?_)
  have hlen : ((l :: E).take 60).length = min (E.length + 1) 60 := by simp; omega
  refine aB.lD hs' hh' (by omega) (.inr rfl) ?_ ho' ?_
  · intro e he
    rcases List.mem_cons.1 (List.mem_of_mem_take he) with rfl | he
    · exact hl
    · exact hm e he
  · rw [hlen]
    exact (H5.swap.jf.BL.BM (nI (fun I a b => Ia hs hh hE a b) _)).swap
end
end Go.Proofs.YtgndbccogcofjaaGreatDoor
end
section
namespace Go.Proofs.YtgndbccogcofjaaGreatDoor
open Go.RowKit
open _root_.Go.Proofs.Tryz
def tK (E : List (List Int)) (place : Nat) (way : Int) (l : List Int) : Int × List (List Int) × Nat :=
  if way < 0 ∨ 2 < way then (1, E, place)
  else if 1024 < l.length then (3, E, place)
  else if way ≠ 0 ∧ 0 < E.length then
    if 1024 < l.length + (E.getD 0 []).length then (3, E, place)
    else (0, (if way = 1 then E.getD 0 [] ++ l else l ++ E.getD 0 []) :: E.tail, 0)
  else if way = 0 ∧ l.length = 0 then (0, E, place)
  else (0, (l :: E).take 60, 0)
theorem yN {I : Hp} {s : List Value} {h : Nat} {l : List Int} {v : Value} {E : List (List Int)} (hs : s.length = 60) (hh : h < 60) (hE : E.length ≤ 60) (h0 : 0 < E.length) (hS : FP I s h E) (hv : uK I .i32 v l) :
    FP I (s.set h v) h (l :: E.tail) := by
  intro i hi
  have hi' : i < E.length := by simp at hi; omega
  cases i with
  | zero =>
    have e : (h + 0) % 60 = h := by omega
    rw [e, List.getD_eq_getElem?_getD, List.getElem?_set_self (by omega)]
    exact hv
  | succ i =>
    have hne : ¬ h = (h + (i + 1)) % 60 := by omega
    rw [List.getD_eq_getElem?_getD, List.getElem?_set_ne hne, ← List.getD_eq_getElem?_getD]
    have := hS (i + 1) hi'
    simpa [List.getD_eq_getElem?_getD] using this
section
variable {w0 w : World} {F : HP} {p place : Nat} {E : List (List Int)} {v : Value} {l : List Int} {way : Int}
theorem nD (h0 : 0 < E.length) (x : List Int) : (x :: E.tail).length = E.length := by simp; omega
theorem BX (H : aB w0 w (bY p E place • F)) (hr : iD w0 F .i32 v l) (hw : way < 0 ∨ 2 < way) :
  eG prog 233 #[.pointer (some ⟨p, 0, none⟩), .int .i64 way, v] w fun v' w' => v' = .int .i64 1 ∧ aB w0 w' (bY p E place • F) := by
 obtain ⟨s, h, hs, hh, hE, hp, hm, ho, H1⟩ := H.ring
 have hb := H1.get.2
 refine fP func233 ntmps233 ?_
 dsimp only [aX, Nat.reduceAdd]
 refine ay (ah (aV rfl (aA (aj (ay (ay (ah (aO rfl (dn rfl func177 (gJ _ hb rU) ?_)))))))))
 rintro _ _ ⟨rfl, rfl⟩
 refine aA (aj (nV (aS (aj (ay (ay (ah (aO rfl (aW (eU rfl rfl) (fV rfl (fun h1 => ?_) (fun h1 => ?_)))))))))))
 ·(try simp only [aI] at h1)
  try (exfalso; first | contradiction | omega)
  all_goals
   refine bC (bC (fG rfl rfl (aA (aj (uI (ay (ah (aV rfl (aA (aj (aJ (aK (aH (.inl rfl) results233 rfl ?_)))))))))))))
   exact ⟨rfl, H⟩
 ·(try simp only [aI] at h1)
  try (exfalso; first | contradiction | omega)
  all_goals
   refine bf (aO rfl (bf (aW (dB rfl rfl) (eY rfl rfl (aA (aj (aQ rfl (fun h2 => ?_) (fun h => by exfalso; (try simp only [aI] at h); first | contradiction | omega | (simp at h <;> omega)))))))))
   (try simp only [aI] at h2)
   refine ay (ah (aV rfl (aA (aj (aJ (aK (aH (.inl rfl) results233 rfl ?_)))))))
   exact ⟨rfl, H⟩
theorem Ak (H : aB w0 w (bY p E place • F)) (hr : iD w0 F .i32 v l) (hw : 0 ≤ way ∧ way ≤ 2) (hl : 1024 < l.length) :
  eG prog 233 #[.pointer (some ⟨p, 0, none⟩), .int .i64 way, v] w fun v' w' => v' = .int .i64 3 ∧ aB w0 w' (bY p E place • F) := by
 obtain ⟨s, h, hs, hh, hE, hp, hm, ho, H1⟩ := H.ring
 have hb := H1.get.2
 obtain ⟨a, c, rfl, _, _, _⟩ := (hr w H.right).open
 refine fP func233 ntmps233 ?_
 dsimp only [aX, Nat.reduceAdd]
 refine ay (ah (aV rfl (aA (aj (ay (ay (ah (aO rfl (dn rfl func177 (gJ _ hb rU) ?_)))))))))
 rintro _ _ ⟨rfl, rfl⟩
 refine aA (aj (nV (aS (aj (ay (ay (ah (aO rfl (aW (eU rfl rfl) (fV rfl (fun h => by exfalso; (try simp only [aI] at h); first | contradiction | omega | (simp at h <;> omega)) (fun h1 => ?_)))))))))))
 (try simp only [aI] at h1)
 refine bf (aO rfl (bf (aW (dB rfl rfl) (eY rfl rfl (aA (aj (aQ rfl (fun h => by exfalso; (try simp only [aI] at h); first | contradiction | omega | (simp at h <;> omega)) (fun h2 => ?_))))))))
 (try simp only [aI] at h2)
 refine aS (aj (ay (ah (aO rfl (aW (dU rfl rfl) (fV rfl (fun h3 => ?_) (fun h3 => ?_)))))))
 ·(try simp only [aI] at h3)
  try (exfalso; first | contradiction | omega)
  all_goals
   refine bf (aO rfl (bf (bK rfl (bf (aZ 62 underlying170 rfl sizeOf3 rfl (bf (dP underlying3 rfl hb (iR hs) (bf (aW (dB rfl rfl) (fG rfl rfl (aV rfl (aA (aj (ay (bg (ay (ah (aO rfl (aW (fB underlying22 rfl) (aW (dB rfl rfl) (fV rfl (fun h4 => ?_) (fun h => by exfalso; (try simp only [aI] at h); first | contradiction | omega | (simp at h <;> omega)))))))))))))))))))))))
   (try simp only [aI] at h4)
   refine bC (bC (kJ (kJ (kJ (kJ (kJ (kJ (kJ (bC (fG rfl rfl (aV rfl (aA (aj (uI (ay (ah (aV rfl (aA (aj (aJ (aU (aK (aH (.inl rfl) results233 rfl ?_)))))))))))))))))))))))
   exact ⟨rfl, H⟩
 ·(try simp only [aI] at h3)
  try (exfalso; first | contradiction | omega)
  all_goals
   refine bC (bC (bC (bC (bC (eY rfl rfl (aV rfl (aA (aj (ay (bg (ay (ah (aO rfl (aW (fB underlying22 rfl) (aW (dB rfl rfl) (fV rfl (fun h5 => ?_) (fun h => by exfalso; (try simp only [aI] at h); first | contradiction | omega | (simp at h <;> omega))))))))))))))))))
   (try simp only [aI] at h5)
   refine bC (bC (kJ (kJ (kJ (kJ (kJ (kJ (kJ (bC (fG rfl rfl (aV rfl (aA (aj (uI (ay (ah (aV rfl (aA (aj (aJ (aU (aK (aH (.inl rfl) results233 rfl ?_)))))))))))))))))))))))
   exact ⟨rfl, H⟩
theorem wS (H : aB w0 w (bY p E place • F)) (hr : iD w0 F .i32 v l) (hl : l.length = 0) :
  eG prog 233 #[.pointer (some ⟨p, 0, none⟩), .int .i64 0, v] w fun v' w' => v' = .int .i64 0 ∧ aB w0 w' (bY p E place • F) := by
 obtain ⟨s, h, hs, hh, hE, hp, hm, ho, H1⟩ := H.ring
 have hb := H1.get.2
 obtain ⟨a, c, rfl, _, _, _⟩ := (hr w H.right).open
 refine fP func233 ntmps233 ?_
 dsimp only [aX, Nat.reduceAdd]
 refine ay (ah (aV rfl (aA (aj (ay (ay (ah (aO rfl (dn rfl func177 (gJ _ hb rU) ?_)))))))))
 rintro _ _ ⟨rfl, rfl⟩
 refine aA (aj (nV (aS (aj (ay (ay (ah (aO rfl (aW (eU rfl rfl) (fV rfl (fun h => by exfalso; (try simp only [aI] at h); first | contradiction | omega | (simp at h <;> omega)) (fun h1 => ?_)))))))))))
 (try simp only [aI] at h1)
 refine bf (aO rfl (bf (aW (dB rfl rfl) (eY rfl rfl (aA (aj (aQ rfl (fun h => by exfalso; (try simp only [aI] at h); first | contradiction | omega | (simp at h <;> omega)) (fun h2 => ?_))))))))
 (try simp only [aI] at h2)
 refine aS (aj (ay (ah (aO rfl (aW (dU rfl rfl) (fV rfl (fun h => by exfalso; (try simp only [aI] at h); first | contradiction | omega | (simp at h <;> omega)) (fun h3 => ?_)))))))
 (try simp only [aI] at h3)
 refine bC (bC (bC (bC (bC (eY rfl rfl (aV rfl (aA (aj (ay (bg (ay (ah (aO rfl (aW (fB underlying22 rfl) (aW (dB rfl rfl) (fV rfl (fun h => by exfalso; (try simp only [aI] at h); first | contradiction | omega | (simp at h <;> omega)) (fun h4 => ?_)))))))))))))))))
 (try simp only [aI] at h4)
 refine bf (aO rfl (bf (aO rfl (bC (bC (bC (bC (bC (bC (bC (bf (eY rfl rfl (eY rfl rfl (aV rfl (aA (aj (nV (ay (ah (aO rfl (aW (gI rfl rfl) (fV rfl (fun h5 => ?_) (fun h => by exfalso; (try simp only [aI] at h); first | contradiction | omega | (simp at h <;> omega))))))))))))))))))))))))
 (try simp only [aI] at h5)
 refine bf (aO rfl (bf (aW (fB underlying22 rfl) (bf (aW (gI rfl rfl) (fG rfl rfl (aV rfl (aA (aj (aQ rfl (fun h6 => ?_) (fun h => by exfalso; (try simp only [aI] at h); first | contradiction | omega | (simp at h <;> omega))))))))))))
 (try simp only [aI] at h6)
 refine ay (ah (aV rfl (aA (aj (aJ (aU (aK (aH (.inl rfl) results233 rfl ?_))))))))
 exact ⟨rfl, H⟩
theorem BZ (H : aB w0 w (bY p E place • F)) (hr : iD w0 F .i32 v l) (hw : 0 ≤ way ∧ way ≤ 2) (hl : l.length ≤ 1024) (hj : way = 0 ∨ E.length = 0) (hn : ¬ (way = 0 ∧ l.length = 0)) :
  eG prog 233 #[.pointer (some ⟨p, 0, none⟩), .int .i64 way, v] w fun v' w' => v' = .int .i64 0 ∧ aB w0 w' (bY p ((l :: E).take 60) 0 • F) := by
 obtain ⟨s, h, hs, hh, hE, hp, hm, ho, H1⟩ := H.ring
 have hb := H1.get.2
 obtain ⟨a, c, hv, _, _, _⟩ := (hr w H.right).open
 subst hv
 refine fP func233 ntmps233 ?_
 dsimp only [aX, Nat.reduceAdd]
 refine ay (ah (aV rfl (aA (aj (ay (ay (ah (aO rfl (dn rfl func177 (gJ _ hb rU) ?_)))))))))
 rintro _ _ ⟨rfl, rfl⟩
 refine aA (aj (nV (aS (aj (ay (ay (ah (aO rfl (aW (eU rfl rfl) (fV rfl (fun h => by exfalso; (try simp only [aI] at h); first | contradiction | omega | (simp at h <;> omega)) (fun h1 => ?_)))))))))))
 (try simp only [aI] at h1)
 refine bf (aO rfl (bf (aW (dB rfl rfl) (eY rfl rfl (aA (aj (aQ rfl (fun h => by exfalso; (try simp only [aI] at h); first | contradiction | omega | (simp at h <;> omega)) (fun h2 => ?_))))))))
 (try simp only [aI] at h2)
 refine aS (aj (ay (ah (aO rfl (aW (dU rfl rfl) (fV rfl (fun h3 => ?_) (fun h3 => ?_)))))))
 ·(try simp only [aI] at h3)
  try (exfalso; first | contradiction | omega)
  all_goals
   refine bf (aO rfl (bf (bK rfl (bf (aZ 62 underlying170 rfl sizeOf3 rfl (bf (dP underlying3 rfl hb (iR hs) (bf ?_))))))))
   refine aW (CU (dB rfl rfl) (by first | (rw [decide_eq_true_eq]; omega) | (rw [decide_eq_false_iff_not]; omega) | (rw [beq_iff_eq]; omega) | (rw [beq_eq_false_iff_ne]; omega) | (rw [bne_iff_ne]; omega) | (rw [bne_eq_false_iff_eq]; omega) | (simp; done) | (simp; omega))) ?_
   refine fG rfl rfl (aV rfl (aA (aj (ay (bg (ay (ah (aO rfl (aW (fB underlying22 rfl) (aW (dB rfl rfl) (fV rfl (fun h => by exfalso; (try simp only [aI] at h); first | contradiction | omega | (simp at h <;> omega)) (fun h4 => ?_))))))))))))
   (try simp only [aI] at h4)
   refine bf (aO rfl (bf (aO rfl (bC (bC (bC (bC (bC (bC (bC (bf (eY rfl rfl (eY rfl rfl (aV rfl (aA (aj (nV (ay (ah (aO rfl (aW (gI rfl rfl) (fV rfl (fun h5 => ?_) (fun h5 => ?_)))))))))))))))))))))))
   ·(try simp only [aI] at h5)
    try (exfalso; first | contradiction | omega)
    all_goals
     refine bf (aO rfl (bf (aW (fB underlying22 rfl) (bf (aW (gI rfl rfl) (fG rfl rfl (aV rfl (aA (aj (aQ rfl (fun h => by exfalso; (try simp only [aI] at h); first | contradiction | omega | (simp at h <;> omega)) (fun h6 => ?_)))))))))))
     (try simp only [aI] at h6)
     refine ay (ah (aO rfl (aW (kC rfl) (aV rfl (aA (aj (aQ rfl (fun h7 => ?_) (fun h7 => ?_))))))))
     ·(try simp only [aI] at h7)
      try (exfalso; first | contradiction | omega)
      all_goals
       refine ah (aO rfl (aO rfl (dn rfl func245 (nC H hr hl) ?_)))
       rintro _ w2 H7
       obtain ⟨s2, h2, hs2, hh2, hE2, hp2, hm2, ho2, H2⟩ := H7.ring
       refine aA (aP (aj (ay (ah (aO rfl (bK rfl (aZ 63 underlying170 rfl sizeOf3 rfl (aG (dA H2 sizeOf3 rfl rfl rfl (by rw [gG hs2]; decide)) ?_))))))))
       rintro _ w3 H8
       rw [show (Value.int .i64 0) = .int .i64 ((0 : Nat) : Int) from rfl, gQ hs2] at H8
       refine aA (aj (ay (ah (aV rfl (aA (aj (aJ (aH (.inl rfl) results233 rfl ?_))))))))
       exact ⟨rfl, aB.lD hs2 hh2 hE2 hp2 hm2 ho2 H8⟩
     ·(try simp only [aI] at h7)
      try (exfalso; first | contradiction | omega)
      all_goals
       refine ay (ah (aO rfl (aW (gI rfl rfl) (aV rfl (aA (aj (aQ rfl (fun h8 => ?_) (fun h8 => ?_))))))))
       ·(try simp only [aI] at h8)
        exfalso; first | contradiction | omega
       ·(try simp only [aI] at h8)
        exfalso; first | contradiction | omega
   ·(try simp only [aI] at h5)
    try (exfalso; first | contradiction | omega)
    all_goals
     refine bC (bC (bC (eY rfl rfl (aV rfl (aA (aj (nV (ay (ah (aO rfl (aW (kC rfl) (aV rfl (aA (aj (aQ rfl (fun h9 => ?_) (fun h9 => ?_))))))))))))))))
     ·(try simp only [aI] at h9)
      try (exfalso; first | contradiction | omega)
      all_goals
       refine ah (aO rfl (aO rfl (dn rfl func245 (nC H hr hl) ?_)))
       rintro _ Ky H7
       obtain ⟨s2, h2, hs2, hh2, hE2, hp2, hm2, ho2, H2⟩ := H7.ring
       refine aA (aP (aj (ay (ah (aO rfl (bK rfl (aZ 63 underlying170 rfl sizeOf3 rfl (aG (dA H2 sizeOf3 rfl rfl rfl (by rw [gG hs2]; decide)) ?_))))))))
       rintro _ MB H8
       rw [show (Value.int .i64 0) = .int .i64 ((0 : Nat) : Int) from rfl, gQ hs2] at H8
       refine aA (aj (ay (ah (aV rfl (aA (aj (aJ (aH (.inl rfl) results233 rfl ?_))))))))
       exact ⟨rfl, aB.lD hs2 hh2 hE2 hp2 hm2 ho2 H8⟩
     ·(try simp only [aI] at h9)
      try (exfalso; first | contradiction | omega)
      all_goals
       refine ay (ah (aO rfl (aW (gI rfl rfl) (aV rfl (aA (aj (aQ rfl (fun h10 => ?_) (fun h10 => ?_))))))))
       ·(try simp only [aI] at h10)
        exfalso; first | contradiction | omega
       ·(try simp only [aI] at h10)
        exfalso; first | contradiction | omega
 ·(try simp only [aI] at h3)
  try (exfalso; first | contradiction | omega)
  all_goals
   refine bC (bC (bC (bC (bC (eY rfl rfl (aV rfl (aA (aj (ay (bg (ay (ah (aO rfl (aW (fB underlying22 rfl) (aW (dB rfl rfl) (fV rfl (fun h => by exfalso; (try simp only [aI] at h); first | contradiction | omega | (simp at h <;> omega)) (fun h11 => ?_)))))))))))))))))
   (try simp only [aI] at h11)
   refine bf (aO rfl (bf (aO rfl (bC (bC (bC (bC (bC (bC (bC (bf (eY rfl rfl (eY rfl rfl (aV rfl (aA (aj (nV (ay (ah (aO rfl (aW (gI rfl rfl) (fV rfl (fun h12 => ?_) (fun h12 => ?_)))))))))))))))))))))))
   ·(try simp only [aI] at h12)
    try (exfalso; first | contradiction | omega)
    all_goals
     refine bf (aO rfl (bf (aW (fB underlying22 rfl) (bf (aW (gI rfl rfl) (fG rfl rfl (aV rfl (aA (aj (aQ rfl (fun h => by exfalso; (try simp only [aI] at h); first | contradiction | omega | (simp at h <;> omega)) (fun h13 => ?_)))))))))))
     (try simp only [aI] at h13)
     refine ay (ah (aO rfl (aW (kC rfl) (aV rfl (aA (aj (aQ rfl (fun h14 => ?_) (fun h14 => ?_))))))))
     ·(try simp only [aI] at h14)
      try (exfalso; first | contradiction | omega)
      all_goals
       refine ah (aO rfl (aO rfl (dn rfl func245 (nC H hr hl) ?_)))
       rintro _ Uh H7
       obtain ⟨s2, h2, hs2, hh2, hE2, hp2, hm2, ho2, H2⟩ := H7.ring
       refine aA (aP (aj (ay (ah (aO rfl (bK rfl (aZ 63 underlying170 rfl sizeOf3 rfl (aG (dA H2 sizeOf3 rfl rfl rfl (by rw [gG hs2]; decide)) ?_))))))))
       rintro _ Ui H8
       rw [show (Value.int .i64 0) = .int .i64 ((0 : Nat) : Int) from rfl, gQ hs2] at H8
       refine aA (aj (ay (ah (aV rfl (aA (aj (aJ (aH (.inl rfl) results233 rfl ?_))))))))
       exact ⟨rfl, aB.lD hs2 hh2 hE2 hp2 hm2 ho2 H8⟩
     ·(try simp only [aI] at h14)
      try (exfalso; first | contradiction | omega)
      all_goals
       refine ay (ah (aO rfl (aW (gI rfl rfl) (aV rfl (aA (aj (aQ rfl (fun h15 => ?_) (fun h15 => ?_))))))))
       ·(try simp only [aI] at h15)
        exfalso; first | contradiction | omega
       ·(try simp only [aI] at h15)
        exfalso; first | contradiction | omega
   ·(try simp only [aI] at h12)
    try (exfalso; first | contradiction | omega)
    all_goals
     refine bC (bC (bC (eY rfl rfl (aV rfl (aA (aj (nV (ay (ah (aO rfl (aW (kC rfl) (aV rfl (aA (aj (aQ rfl (fun h16 => ?_) (fun h16 => ?_))))))))))))))))
     ·(try simp only [aI] at h16)
      try (exfalso; first | contradiction | omega)
      all_goals
       refine ah (aO rfl (aO rfl (dn rfl func245 (nC H hr hl) ?_)))
       rintro _ Ul H7
       obtain ⟨s2, h2, hs2, hh2, hE2, hp2, hm2, ho2, H2⟩ := H7.ring
       refine aA (aP (aj (ay (ah (aO rfl (bK rfl (aZ 63 underlying170 rfl sizeOf3 rfl (aG (dA H2 sizeOf3 rfl rfl rfl (by rw [gG hs2]; decide)) ?_))))))))
       rintro _ YS H8
       rw [show (Value.int .i64 0) = .int .i64 ((0 : Nat) : Int) from rfl, gQ hs2] at H8
       refine aA (aj (ay (ah (aV rfl (aA (aj (aJ (aH (.inl rfl) results233 rfl ?_))))))))
       exact ⟨rfl, aB.lD hs2 hh2 hE2 hp2 hm2 ho2 H8⟩
     ·(try simp only [aI] at h16)
      try (exfalso; first | contradiction | omega)
      all_goals
       refine ay (ah (aO rfl (aW (gI rfl rfl) (aV rfl (aA (aj (aQ rfl (fun h17 => ?_) (fun h17 => ?_))))))))
       ·(try simp only [aI] at h17)
        exfalso; first | contradiction | omega
       ·(try simp only [aI] at h17)
        exfalso; first | contradiction | omega
theorem Cb (H : aB w0 w (bY p E place • F)) (hr : iD w0 F .i32 v l) (hw : 0 < way ∧ way ≤ 2) (hl : l.length ≤ 1024) (hE0 : 0 < E.length) (hj : 1024 < l.length + (E.getD 0 []).length) :
  eG prog 233 #[.pointer (some ⟨p, 0, none⟩), .int .i64 way, v] w fun v' w' => v' = .int .i64 3 ∧ aB w0 w' (bY p E place • F) := by
 obtain ⟨s, h, hs, hh, hE, hp, hm, ho, H1⟩ := H.ring
 have hb := H1.get.2
 obtain ⟨a, c, hv, _, _, _⟩ := (hr w H.right).open
 subst hv
 have hm0 : (E.getD 0 []).length ≤ 1024 := hm _ (by rw [List.getD_eq_getElem?_getD, List.getElem?_eq_getElem hE0]; simp)
 refine fP func233 ntmps233 ?_
 dsimp only [aX, Nat.reduceAdd]
 refine ay (ah (aV rfl (aA (aj (ay (ay (ah (aO rfl (dn rfl func177 (gJ _ hb rU) ?_)))))))))
 rintro _ _ ⟨rfl, rfl⟩
 refine aA (aj (nV (aS (aj (ay (ay (ah (aO rfl (aW (eU rfl rfl) (fV rfl (fun h => by exfalso; (try simp only [aI] at h); first | contradiction | omega | (simp at h <;> omega)) (fun h1 => ?_)))))))))))
 (try simp only [aI] at h1)
 refine bf (aO rfl (bf (aW (dB rfl rfl) (eY rfl rfl (aA (aj (aQ rfl (fun h => by exfalso; (try simp only [aI] at h); first | contradiction | omega | (simp at h <;> omega)) (fun h2 => ?_))))))))
 (try simp only [aI] at h2)
 refine aS (aj (ay (ah (aO rfl (aW (dU rfl rfl) (fV rfl (fun h3 => ?_) (fun h => by exfalso; (try simp only [aI] at h); first | contradiction | omega | (simp at h <;> omega))))))))
 (try simp only [aI] at h3)
 refine bf (aO rfl (bf (bK rfl (bf (aZ 62 underlying170 rfl sizeOf3 rfl (bf (dP underlying3 rfl hb (iR hs) (bf ?_))))))))
 refine aW (uq (dB rfl rfl) (by first | (rw [decide_eq_true_eq]; omega) | (rw [decide_eq_false_iff_not]; omega) | (rw [beq_iff_eq]; omega) | (rw [beq_eq_false_iff_ne]; omega) | (rw [bne_iff_ne]; omega) | (rw [bne_eq_false_iff_eq]; omega) | (simp; done) | (simp; omega))) ?_
 refine fG rfl rfl (aV rfl (aA (aj (ay (bg (ay (ah (aO rfl (aW (fB underlying22 rfl) (aW (dB rfl rfl) (fV rfl (fun h => by exfalso; (try simp only [aI] at h); first | contradiction | omega | (simp at h <;> omega)) (fun h4 => ?_))))))))))))
 (try simp only [aI] at h4)
 refine bf (aO rfl (bf (aO rfl (bf (aO rfl (bf (aW (fB underlying22 rfl) (bf (aO rfl (bf (dn rfl func179 (nM (k := 0) hs hh (by omega) hb) ?_)))))))))))
 rintro _ w2 ⟨rfl, hD⟩
 obtain ⟨a0, c0, e0, _, _, _⟩ := ((H1.pK hD).right.tJ (i := 0) hE0).open
 rw [e0]
 refine bf (aW (fB underlying22 rfl) (bf (aW (gU rfl rfl (by omega)) (bf ?_))))
 refine aW (uq (dB rfl rfl) (by first | (rw [decide_eq_true_eq]; omega) | (rw [decide_eq_false_iff_not]; omega) | (rw [beq_iff_eq]; omega) | (rw [beq_eq_false_iff_ne]; omega) | (rw [bne_iff_ne]; omega) | (rw [bne_eq_false_iff_eq]; omega) | (simp; done) | (simp; omega))) ?_
 refine bf (fG rfl rfl (eY rfl rfl (aV rfl (aA (aj (uI (ay (ah (aV rfl (aA (aj (aJ (aU (aK (aH (.inl rfl) results233 rfl ?_)))))))))))))))
 exact ⟨rfl, H.pK hD⟩
theorem Am (H : aB w0 w (bY p E place • F)) (hr : iD w0 F .i32 v l) (hw : 0 < way ∧ way ≤ 2) (hE0 : 0 < E.length) (hj : l.length + (E.getD 0 []).length ≤ 1024) :
    eG prog 233 #[.pointer (some ⟨p, 0, none⟩), .int .i64 way, v] w fun v' w' => v' = .int .i64 0 ∧ aB w0 w' (bY p ((if way = 1 then E.getD 0 [] ++ l else l ++ E.getD 0 []) :: E.tail) 0 • F) := by
  obtain ⟨s, h, hs, hh, hE, hp, hm, ho, H⟩ := H.ring
  have hb := H.get.2
  obtain ⟨a, c, hv, _, _, _⟩ := (hr w H.right.right).open
  subst hv
  have hm0 : (E.getD 0 []).length ≤ 1024 := hm _ (by rw [List.getD_eq_getElem?_getD, List.getElem?_eq_getElem hE0]; simp)
  have Y3 := Dl (h := h) (n := E.length) (p := place) hs (i := (h + 0) % 60) (by omega)
  refine fP func233 ntmps233 ?_
  dsimp only [aX, Nat.reduceAdd]
  refine ay (ah (aV rfl (aA (aj (ay (ay (ah (aO rfl (dn rfl func177 (gJ _ hb rU) ?_)))))))))
  rintro _ _ ⟨rfl, rfl⟩
  refine aA (aj (nV (aS (aj (ay (ay (ah (aO rfl (aW (eU rfl rfl) (fV rfl (fun h => by exfalso; (try simp only [aI] at h); first | contradiction | omega | (simp at h <;> omega)) (fun h1 => ?_)))))))))))
  (try simp only [aI] at h1)
  refine bf (aO rfl (bf (aW (dB rfl rfl) (eY rfl rfl (aA (aj (aQ rfl (fun h => by exfalso; (try simp only [aI] at h); first | contradiction | omega | (simp at h <;> omega)) (fun h2 => ?_))))))))
  (try simp only [aI] at h2)
  refine aS (aj (ay (ah (aO rfl (aW (dU rfl rfl) (fV rfl (fun h3 => ?_) (fun h => by exfalso; (try simp only [aI] at h); first | contradiction | omega | (simp at h <;> omega))))))))
  (try simp only [aI] at h3)
  refine bf (aO rfl (bf (bK rfl (bf (aZ 62 underlying170 rfl sizeOf3 rfl (bf (dP underlying3 rfl hb (iR hs) (bf ?_))))))))
  refine aW (uq (dB rfl rfl) (by first | (rw [decide_eq_true_eq]; omega) | (rw [decide_eq_false_iff_not]; omega) | (rw [beq_iff_eq]; omega) | (rw [beq_eq_false_iff_ne]; omega) | (rw [bne_iff_ne]; omega) | (rw [bne_eq_false_iff_eq]; omega) | (simp; done) | (simp; omega))) ?_
  refine fG rfl rfl (aV rfl (aA (aj (ay (bg (ay (ah (aO rfl (aW (fB underlying22 rfl) (aW (dB rfl rfl) (fV rfl (fun h => by exfalso; (try simp only [aI] at h); first | contradiction | omega | (simp at h <;> omega)) (fun h4 => ?_))))))))))))
  (try simp only [aI] at h4)
  refine bf (aO rfl (bf (aO rfl (bf (aO rfl (bf (aW (fB underlying22 rfl) (bf (aO rfl (bf (dn rfl func179 (nM (k := 0) hs hh (by omega) hb) ?_)))))))))))
  rintro _ w2 ⟨rfl, hD⟩
  obtain ⟨a0, c0, e0, _, _, _⟩ := ((H.pK hD).right.tJ (i := 0) hE0).open
  rw [e0]
  have ng := H.pK hD
  refine bf (aW (fB underlying22 rfl) (bf (aW (gU rfl rfl (by omega)) (bf ?_))))
  refine aW (CU (dB rfl rfl) (by first | (rw [decide_eq_true_eq]; omega) | (rw [decide_eq_false_iff_not]; omega) | (rw [beq_iff_eq]; omega) | (rw [beq_eq_false_iff_ne]; omega) | (rw [bne_iff_ne]; omega) | (rw [bne_eq_false_iff_eq]; omega) | (simp; done) | (simp; omega))) ?_
  refine bf (fG rfl rfl (eY rfl rfl (aV rfl (aA (aj (nV (ay (ah (aO rfl (aW (gI rfl rfl) (fV rfl (fun h => by exfalso; (try simp only [aI] at h); first | contradiction | omega | (simp at h <;> omega)) (fun h5 => ?_))))))))))))
  (try simp only [aI] at h5)
  refine bC (bC (bC (eY rfl rfl (aV rfl (aA (aj (nV (ay (ah (aO rfl (aW (kC rfl) (aV rfl (aA (aj (aQ rfl (fun h => by exfalso; (try simp only [aI] at h); first | contradiction | omega | (simp at h <;> omega)) (fun h6 => ?_))))))))))))))))
  (try simp only [aI] at h6)
  refine ay (ah (aO rfl (aW (gI rfl rfl) (aV rfl (aA (aj (aQ rfl (fun h7 => ?_) (fun h7 => ?_))))))))
  · (try simp only [aI] at h7)
    try (exfalso; first | contradiction | omega)
    all_goals
      have hw1 : way = 1 := by omega
      refine jE (n := 14) [0, 1, 2, 3, 4, 5, 6, 7, 8, 9, 10, 11, 12, 13] (fun W => W.heap[p]? = some (.cells (bJ s h E.length place) 170 (0, 0))) (by kernel_rfl) (by kernel_rfl) rfl ?_
      have hS0 : (fun W => W.heap[p]? = some (.cells (bJ s h E.length place) 170 (0, 0))) (w2.drew) := ng.get.2
      have FQ := ng.drew
      refine iq 0 rfl hS0 rfl (iq 1 rfl hS0 rfl (jv 2 rfl hS0 rfl (fU 3 rfl hS0 61 underlying170 rfl sizeOf3 rfl (iV 4 rfl hS0 (fun W hW => jr underlying3 rfl hW (qN hs)) (iq 5 rfl hS0 rfl (iq 7 rfl hS0 rfl (jv 10 rfl hS0 rfl (fU 11 rfl hS0 1 underlying170 rfl sizeOf168 rfl (jB 6 rfl (vK rfl func179 (nM (k := 0) hs hh (by omega) FQ.get.2)) ?_)))))))))
      rintro _ w3 ⟨rfl, hD2⟩
      have wz := FQ.pK hD2
      have hS3 : (fun W => W.heap[p]? = some (.cells (bJ s h E.length place) 170 (0, 0))) w3 := wz.get.2
      refine wH hS3 ?_
      refine jB 8 rfl (Jl (vs := [s.getD ((h + 0) % 60) undef, .slice a l.length c]) wz underlying54 sizeOf22 zeroValue22 rfl rfl rfl (by decide) (by rw [e0]; simp [Value.oneCell'])) ?_
      rintro _ w4 ⟨b2, rfl, H4⟩
      have hS4 : (fun W => W.heap[p]? = some (.cells (bJ s h E.length place) 170 (0, 0))) w4 := H4.swap.get.2
      refine wH hS4 ?_
      refine jB 9 rfl (vK rfl func128 (tH H4 (fun W HW => HW.right.right.tJ (i := 0) hE0) hr.under.under.under (by omega))) ?_
      rintro u w5 H5
      have nY := H5.BL
      have hS5 : (fun W => W.heap[p]? = some (.cells (bJ s h E.length place) 170 (0, 0))) w5 := nY.get.2
      refine wH hS5 ?_
      refine iU 12 rfl hS5 (fun _ => pO underlying168 sizeOf22 rfl rfl (by omega)) ?_
      refine eP 13 rfl (by kernel_rfl) (dA nY sizeOf22 rfl rfl H5.aT.one (by rw [gG hs]; omega)) ?_
      rintro _ w6 Fh
      rw [show (1 + ((h : Int)).toNat * 1) = 1 + h from by omega, qy hs hh] at Fh
      have hs' : (s.set h u).length = 60 := by simp [hs]
      have ho' := Ee ho (u := u) (i := h) H5.aT.one
      refine zK (by kernel_rfl) ?_
      refine oV (aP (aj (ay (ah (aO rfl (bK rfl (aZ 63 underlying170 rfl sizeOf3 rfl (aG (dA Fh sizeOf3 rfl rfl rfl (by rw [gG hs']; decide)) ?_))))))))
      rintro _ w7 xC
      rw [show (Value.int .i64 0) = .int .i64 ((0 : Nat) : Int) from rfl, gQ hs'] at xC
      have Kz := xC.swap.jf
      refine aA (aj (ay (ah (aV rfl (aA (aj (aJ (aH (.inl rfl) results233 rfl ?_))))))))
      refine ⟨rfl, aB.lD hs' hh (by rw [nD hE0]; omega) (.inr rfl) ?_ ho' ?_⟩
      · intro e he
        rcases List.mem_cons.1 he with rfl | he
        · first | (rw [if_pos hw1, List.length_append]; omega) | (rw [if_neg (by omega), List.length_append]; omega)
        · exact hm e (List.mem_of_mem_tail he)
      · rw [nD hE0]
        first | rw [if_pos hw1] | rw [if_neg (by omega)]
        exact (Kz.r4.swap.BM (nI (fun I a b => yN hs hh hE hE0 b a) _)).BL.right.swap
  · (try simp only [aI] at h7)
    try (exfalso; first | contradiction | omega)
    all_goals
      have hw2 : way = 2 := by omega
      refine jE (n := 14) [0, 1, 2, 3, 4, 5, 6, 7, 8, 9, 10, 11, 12, 13] (fun W => W.heap[p]? = some (.cells (bJ s h E.length place) 170 (0, 0))) (by kernel_rfl) (by kernel_rfl) rfl ?_
      have hS0 : (fun W => W.heap[p]? = some (.cells (bJ s h E.length place) 170 (0, 0))) (w2.drew) := ng.get.2
      have Y4 := ng.drew
      refine iq 0 rfl hS0 rfl (iq 1 rfl hS0 rfl (jv 2 rfl hS0 rfl (fU 3 rfl hS0 61 underlying170 rfl sizeOf3 rfl (iV 4 rfl hS0 (fun W hW => jr underlying3 rfl hW (qN hs)) (iq 5 rfl hS0 rfl (iq 6 rfl hS0 rfl (jv 10 rfl hS0 rfl (fU 11 rfl hS0 1 underlying170 rfl sizeOf168 rfl (jB 7 rfl (vK rfl func179 (nM (k := 0) hs hh (by omega) Y4.get.2)) ?_)))))))))
      rintro _ w8 ⟨rfl, hD2⟩
      have wz := Y4.pK hD2
      have ZP : (fun W => W.heap[p]? = some (.cells (bJ s h E.length place) 170 (0, 0))) w8 := wz.get.2
      refine wH ZP ?_
      refine jB 8 rfl (Jl (vs := [.slice a l.length c, s.getD ((h + 0) % 60) undef]) wz underlying54 sizeOf22 zeroValue22 rfl rfl rfl (by decide) (by rw [e0]; simp [Value.oneCell'])) ?_
      rintro _ w9 ⟨b2, rfl, H9⟩
      have ZQ : (fun W => W.heap[p]? = some (.cells (bJ s h E.length place) 170 (0, 0))) w9 := H9.swap.get.2
      refine wH ZQ ?_
      refine jB 9 rfl (vK rfl func128 (tH H9 hr.under.under.under (fun W HW => HW.right.right.tJ (i := 0) hE0) (by omega))) ?_
      rintro u w10 ng
      have nY := ng.BL
      have Us : (fun W => W.heap[p]? = some (.cells (bJ s h E.length place) 170 (0, 0))) w10 := nY.get.2
      refine wH Us ?_
      refine iU 12 rfl Us (fun _ => pO underlying168 sizeOf22 rfl rfl (by omega)) ?_
      refine eP 13 rfl (by kernel_rfl) (dA nY sizeOf22 rfl rfl ng.aT.one (by rw [gG hs]; omega)) ?_
      rintro _ Ht Fh
      rw [show (1 + ((h : Int)).toNat * 1) = 1 + h from by omega, qy hs hh] at Fh
      have hs' : (s.set h u).length = 60 := by simp [hs]
      have ho' := Ee ho (u := u) (i := h) ng.aT.one
      refine zK (by kernel_rfl) ?_
      refine oV (aP (aj (ay (ah (aO rfl (bK rfl (aZ 63 underlying170 rfl sizeOf3 rfl (aG (dA Fh sizeOf3 rfl rfl rfl (by rw [gG hs']; decide)) ?_))))))))
      rintro _ w12 xC
      rw [show (Value.int .i64 0) = .int .i64 ((0 : Nat) : Int) from rfl, gQ hs'] at xC
      have Kz := xC.swap.jf
      refine aA (aj (ay (ah (aV rfl (aA (aj (aJ (aH (.inl rfl) results233 rfl ?_))))))))
      refine ⟨rfl, aB.lD hs' hh (by rw [nD hE0]; omega) (.inr rfl) ?_ ho' ?_⟩
      · intro e he
        rcases List.mem_cons.1 he with rfl | he
        · first | (rw [if_pos hw1, List.length_append]; omega) | (rw [if_neg (by omega), List.length_append]; omega)
        · exact hm e (List.mem_of_mem_tail he)
      · rw [nD hE0]
        first | rw [if_pos hw1] | rw [if_neg (by omega)]
        exact (Kz.r4.swap.BM (nI (fun I a b => yN hs hh hE hE0 b a) _)).BL.right.swap
end
end Go.Proofs.YtgndbccogcofjaaGreatDoor
end
section
namespace Go.Proofs.YtgndbccogcofjaaGreatDoor
open Go.RowKit
open _root_.Go.Proofs.Tryz
def xR (m place : Nat) (n : Int) : Nat := (((place : Int) + n) % (m : Int)).toNat
theorem O8 {m place : Nat} {n : Int} (h : 0 < m) : xR m place n < m := by
  unfold xR
  have h1 := Int.emod_nonneg ((place : Int) + n) (show (m : Int) ≠ 0 by omega)
  have h2 := Int.emod_lt_of_pos ((place : Int) + n) (show (0 : Int) < m by omega)
  omega
theorem Ef (a : Int) {m : Int} (h : 0 < m) : -m < a.tmod m ∧ a.tmod m < m := by
  have h2 := Int.tmod_lt_of_pos a h
  have h3 := Int.tmod_lt_of_pos (-a) h
  rw [Int.neg_tmod] at h3
  omega
theorem Dn (a m : Int) : a.tmod m % m = a % m := by
  rw [Int.tmod_def]
  exact Int.sub_mul_emod_self_left a m (a.tdiv m)
theorem Rl (m place : Nat) (n : Int) (h : 0 < m) : (((place : Int) + n.tmod m).tmod m + m).tmod m = (xR m place n : Int) := by
  have h1 := Ef ((place : Int) + n.tmod m) (show (0 : Int) < m by omega)
  have h2 := Int.emod_nonneg ((place : Int) + n) (show (m : Int) ≠ 0 by omega)
  unfold xR
  rw [Int.toNat_of_nonneg h2, Int.tmod_eq_emod_of_nonneg (by omega), Int.add_emod_right, Dn, Int.add_emod, Dn, ← Int.add_emod]
section
variable {w0 w : World} {F : HP} {p place : Nat} {E : List (List Int)} {v : Value} {l : List Int} {way : Int}
theorem Cc (H : aB w0 w (bY p E place • F)) (hr : iD w0 F .i32 v l) :
    eG prog 233 #[.pointer (some ⟨p, 0, none⟩), .int .i64 way, v] w fun v' w' => v' = .int .i64 (tK E place way l).1 ∧ aB w0 w' (bY p (tK E place way l).2.1 (tK E place way l).2.2 • F) := by
  unfold tK
  by_cases h1 : way < 0 ∨ 2 < way
  · simp only [h1, if_true]; exact BX H hr h1
  · simp only [h1, if_false]
    by_cases h2 : 1024 < l.length
    · simp only [h2, if_true]; exact Ak H hr (by omega) h2
    · simp only [h2, if_false]
      by_cases h3 : way ≠ 0 ∧ 0 < E.length
      · rw [if_pos h3]
        by_cases h4 : 1024 < l.length + (E.getD 0 []).length
        · rw [if_pos h4]; exact Cb H hr (by omega) (by omega) h3.2 h4
        · rw [if_neg h4]; exact Am H hr (by omega) h3.2 (by omega)
      · rw [if_neg h3]
        by_cases h5 : way = 0 ∧ l.length = 0
        · rw [if_pos h5]; obtain ⟨rfl, h6⟩ := h5; exact wS H hr h6
        · rw [if_neg h5]; exact BZ H hr (by omega) (by omega) (by omega) h5
theorem xU {n : Int} (H : aB w0 w (bY p [] place • F)) :
  eG prog 101 #[.pointer (some ⟨p, 0, none⟩), .int .i64 n] w fun v' w' => v' = .tuple #[.slice none 0 0, .int .i64 6] ∧ aB w0 w' (bY p [] place • F) := by
 obtain ⟨s, h, hs, hh, hE, hp, hm, ho, H1⟩ := H.ring
 have hb := H1.get.2
 refine fP func101 ntmps101 ?_
 dsimp only [aX, Nat.reduceAdd]
 refine ay (ah (aV rfl (aV rfl (aA (aj (ay (bg (ay (ah (aO rfl (dn rfl func177 (gJ _ hb rU) ?_)))))))))))
 rintro _ _ ⟨rfl, rfl⟩
 refine aV rfl (aA (aj (nV (ay (ah (aO rfl (bK rfl (aZ 62 underlying170 rfl sizeOf3 rfl (dP underlying3 rfl hb (iR hs) (aW (gI rfl rfl) (aV rfl (aA (aj (aQ rfl (fun h1 => ?_) (fun h => by exfalso; (try simp only [aI] at h); first | contradiction | omega | (simp at h <;> omega))))))))))))))))
 (try simp only [aI] at h1)
 refine ay (ah (aV rfl (aV rfl (aA (aj (aJ (aU (aK (kF (.inl rfl) results101 rfl rfl ?_)))))))))
 exact ⟨rfl, H⟩
theorem y8 {n : Int} (H : aB w0 w (bY p E place • F)) (h0 : 0 < E.length) :
  eG prog 101 #[.pointer (some ⟨p, 0, none⟩), .int .i64 n] w fun v' w' => ∃ u, v' = .tuple #[u, .int .i64 0] ∧
   aB w0 w' (iE 21 .i32 u (E.getD (xR E.length place n) []) • bY p E (xR E.length place n) • F) := by
 obtain ⟨s, h, hs, hh, hE, hp, hm, ho, H⟩ := H.ring
 have hb := H.get.2
 have hlt := O8 (place := place) (n := n) h0
 have WO := Rl E.length place n h0
 have hb1 := Ef n (show (0 : Int) < E.length by omega)
 have hb2 := Ef ((place : Int) + n.tmod E.length) (show (0 : Int) < E.length by omega)
 refine fP func101 ntmps101 ?_
 dsimp only [aX, Nat.reduceAdd]
 refine ay (ah (aV rfl (aV rfl (aA (aj (ay (bg (ay (ah (aO rfl (dn rfl func177 (gJ _ hb rU) ?_)))))))))))
 rintro _ _ ⟨rfl, rfl⟩
 refine aV rfl (aA (aj (nV (ay (ah (aO rfl (bK rfl (aZ 62 underlying170 rfl sizeOf3 rfl (dP underlying3 rfl hb (iR hs) (aW (gI rfl rfl) (aV rfl (aA (aj (aQ rfl (fun h => by exfalso; (try simp only [aI] at h); first | contradiction | omega | (simp at h <;> omega)) (fun h1 => ?_)))))))))))))))
 (try simp only [aI] at h1)
 refine aS (aP (aj (ay ?_)))
 refine jE (n := 30) [0, 1, 2, 3, 4, 5, 6, 7, 8, 9, 10, 11, 12, 13, 14, 15, 16, 17, 18, 19, 20, 21, 22, 23, 24, 25, 26, 27, 28, 29] (fun W => W.heap = w.heap) (by kernel_rfl) (by kernel_rfl) rfl ?_
 have hS0 : (fun W => W.heap = w.heap) (w.drew) := rfl
 have VP := H.drew
 refine iq 0 rfl hS0 rfl (iq 1 rfl hS0 rfl (jv 2 rfl hS0 rfl (fU 3 rfl hS0 63 underlying170 rfl sizeOf3 rfl ?_)))
 refine iV 4 rfl hS0 (fun W hW => jr underlying3 rfl (by rw [hW]; exact hb) (Aj hs)) ?_
 refine iq 5 rfl hS0 rfl (iq 6 rfl hS0 rfl (jv 7 rfl hS0 rfl (fU 8 rfl hS0 62 underlying170 rfl sizeOf3 rfl ?_)))
 refine iV 9 rfl hS0 (fun W hW => jr underlying3 rfl (by rw [hW]; exact hb) (iR hs)) ?_
 refine iU 10 rfl hS0 (fun _ => GZ rfl rfl (by omega)) (iU 11 rfl hS0 (fun _ => fQ rfl rfl (by omega)) (iq 12 rfl hS0 rfl (jv 13 rfl hS0 rfl (fU 14 rfl hS0 62 underlying170 rfl sizeOf3 rfl ?_))))
 refine iV 15 rfl hS0 (fun W hW => jr underlying3 rfl (by rw [hW]; exact hb) (iR hs)) ?_
 refine iU 16 rfl hS0 (fun _ => GZ rfl rfl (by omega)) (iq 17 rfl hS0 rfl (jv 18 rfl hS0 rfl (fU 19 rfl hS0 62 underlying170 rfl sizeOf3 rfl ?_)))
 refine iV 20 rfl hS0 (fun W hW => jr underlying3 rfl (by rw [hW]; exact hb) (iR hs)) ?_
 refine iU 21 rfl hS0 (fun _ => fQ rfl rfl (by omega)) (iq 22 rfl hS0 rfl (jv 23 rfl hS0 rfl (fU 24 rfl hS0 62 underlying170 rfl sizeOf3 rfl ?_)))
 refine iV 25 rfl hS0 (fun W hW => jr underlying3 rfl (by rw [hW]; exact hb) (iR hs)) ?_
 refine iU 26 rfl hS0 (fun _ => GZ rfl rfl (by omega)) (jv 27 rfl hS0 rfl (fU 28 rfl hS0 63 underlying170 rfl sizeOf3 rfl ?_))
 refine eP 29 rfl (by kernel_rfl) (dA VP sizeOf3 rfl rfl rfl (by rw [gG hs]; decide)) ?_
 rintro _ w2 H2
 rw [WO, gQ hs] at H2
 refine zK (by kernel_rfl) ?_
 refine oV (aj (ay (ah (aO rfl (aO rfl (bK rfl (aZ 63 underlying170 rfl sizeOf3 rfl (dP underlying3 rfl H2.get.2 (Aj hs) (dn rfl func179 (nM hs hh (by omega) H2.get.2) ?_)))))))))
 rintro _ w3 ⟨rfl, hD2⟩
 have H3 := H2.pK hD2
 refine GY (vJ (xI rfl func178 rfl rfl) (kN H3 (fun W HW => HW.right.tJ (i := xR E.length place n) hlt) (by have := hm (E.getD (xR E.length place n) []) (by rw [List.getD_eq_getElem?_getD, List.getElem?_eq_getElem hlt]; simp); omega))) (nR rfl) ?_
 rintro u w4 H4
 refine aV rfl (aV rfl (aA (aj (aJ (kF (.inl rfl) results101 rfl rfl ?_)))))
 exact ⟨u, rfl, (aB.lD hs hh hE (.inl hlt) hm ho H4.d3).swap⟩
theorem Ap (H : aB w0 w (bY p [] place • F)) :
  eG prog 205 #[.pointer (some ⟨p, 0, none⟩)] w fun v' w' => v' = .tuple #[.slice none 0 0, .int .i64 6] ∧ aB w0 w' (bY p [] place • F) := by
 refine fP func205 ntmps205 ?_
 dsimp only [aX, Nat.reduceAdd]
 refine ay (ah (aV rfl (aV rfl (aA (aj (ay (ah (aO rfl (dn rfl func101 (xU H) ?_)))))))))
 rintro _ w1 ⟨rfl, H1⟩
 refine CW rfl rfl (CW rfl rfl (aV rfl (aV rfl (aA (aj (aJ (kF (.inl rfl) results205 rfl rfl ?_)))))))
 exact ⟨rfl, H1⟩
theorem KG {m place : Nat} (h : place < m) : xR m place 0 = place := by
  unfold xR
  rw [Int.add_zero, Int.emod_eq_of_lt (by omega) (by omega)]
  omega
theorem Ce (H : aB w0 w (bY p E place • F)) (h0 : 0 < E.length) :
  eG prog 205 #[.pointer (some ⟨p, 0, none⟩)] w fun v' w' => ∃ u, v' = .tuple #[u, .int .i64 0] ∧
   aB w0 w' (iE 21 .i32 u (E.getD place []) • bY p E place • F) := by
 obtain ⟨s, h, hs, hh, hE, hp, hm, ho, H1⟩ := H.ring
 have hpl : xR E.length place 0 = place := KG (by omega)
 refine fP func205 ntmps205 ?_
 dsimp only [aX, Nat.reduceAdd]
 refine ay (ah (aV rfl (aV rfl (aA (aj (ay (ah (aO rfl (dn rfl func101 (y8 H h0) ?_)))))))))
 rintro _ w1 ⟨u, rfl, H1⟩
 refine CW rfl rfl (CW rfl rfl (aV rfl (aV rfl (aA (aj (aJ (kF (.inl rfl) results205 rfl rfl ?_)))))))
 rw [hpl] at H1; exact ⟨u, rfl, H1⟩
theorem aB.KH {s : List Value} {h : Nat} (H : aB w0 w (rV s h E • F)) : aB w0 w (rV s h E • rV s h E • F) := H.zB
theorem KI {s : List Value} {h n p : Nat} (ho : ∀ v ∈ s, v.oneCell' = true) : ∀ v ∈ (bJ s h n p).toList, v.oneCell' = true := by
  intro v hv
  simp [bJ] at hv
  rcases hv with rfl | hv | rfl | rfl | rfl <;> first | rfl | exact ho v hv
theorem Aq (H : aB w0 w (bY p E place • F)) :
  eG prog 99 #[.pointer (some ⟨p, 0, none⟩)] w fun v' w' => ∃ q, v' = .pointer (some ⟨q, 0, none⟩) ∧ aB w0 w' (bY q E place • bY p E place • F) := by
 obtain ⟨s, h, hs, hh, hE, hp, hm, ho, H⟩ := H.ring
 have hb := H.get.2
 refine fP func99 ntmps99 ?_
 dsimp only [aX, Nat.reduceAdd]
 refine ay (ah (aV rfl (aA (aj (ay (ay (ah (aO rfl (dn rfl func177 (gJ _ hb rU) ?_)))))))))
 rintro _ _ ⟨rfl, rfl⟩
 refine aA (aj (nV (aS (aj (ay (ah (aO rfl (bK rfl (aW (bW underlying170 rfl sizeOf170 (gG hs) rfl hb) (jo (pR H zeroValue170) ?_))))))))))
 rintro _ w2 ⟨b2, rfl, H2⟩
 refine aG (cZ H2 sizeOf170 (gG hs) rfl rfl rfl (KI ho)) ?_
 rintro _ w3 H3
 refine aA (aj (ay (ah (aV rfl (aA (aj (aJ (aH (.inl rfl) results99 rfl ?_))))))))
 exact ⟨_, rfl, aB.lD hs hh hE hp hm ho (aB.lD hs hh hE hp hm ho (H3.BL.KH.r4)).swap.BL⟩
end
end Go.Proofs.YtgndbccogcofjaaGreatDoor
end
section
namespace Go.Proofs.YtgndbccogcofjaaGreatDoor
open Go.RowKit
open _root_.Go.Proofs.Tryz
section
variable {w0 w : World} {F : HP} {p place : Nat} {E : List (List Int)}
theorem Ib (H : aB w0 w (bY p E place • F)) : E.length ≤ 60 ∧ (place < E.length ∨ place = 0) ∧ ∀ e ∈ E, e.length ≤ 1024 := by
  obtain ⟨s, h, hs, hh, hE, hpl, hE2, hs1, H1⟩ := H.ring
  exact ⟨hE, hpl, hE2⟩
theorem Ci (H : aB w0 w (bY p E place • F)) : eG prog 205 #[.pointer (some ⟨p, 0, none⟩)] w fun v w' => ∃ u, v = .tuple #[u, .int .i64 (if E.length = 0 then 6 else 0)] ∧ aB w0 w' (iE 21 .i32 u (E.getD place []) • bY p E place • F) := by
  by_cases h0 : E.length = 0
  · obtain rfl := List.eq_nil_of_length_eq_zero h0
    exact (Ap H).mono fun v w' h => ⟨_, h.1, h.2.iP none⟩
  · rw [if_neg h0]
    exact (Ce H (by omega)).mono fun v w' h => h
end
end Go.Proofs.YtgndbccogcofjaaGreatDoor
end
section
namespace Go.Proofs.YtgndbccogcofjaaGreatDoor
open Go.RowKit
def sK (I : Hp) (k : IntKind) (vs : List Value) (ls : List (List Int)) : Prop := vs.length = ls.length ∧ ∀ j, j < ls.length → uK I k (vs.getD j undef) (ls.getD j [])
def Ut (k : IntKind) (vs : List Value) (ls : List (List Int)) : HP := know (fun I => sK I k vs ls) fun _ _ hl h => ⟨h.1, fun j hj => (h.2 j hj).mono hl⟩
def LL (e : TypeId) (k : IntKind) (v : Value) (ls : List (List Int)) : HP := qo fun vs => Row e 1 v ls.length vs • Ut k vs ls
theorem nG {α : Type _} {l m : List α} {j : Nat} {d : α} (h : j < l.length) : (l ++ m).getD j d = l.getD j d := by simp [List.getD_eq_getElem?_getD, List.getElem?_append_left h]
theorem lF {α : Type _} {l m : List α} {j : Nat} {d : α} (h : l.length ≤ j) : (l ++ m).getD j d = m.getD (j - l.length) d := by simp [List.getD_eq_getElem?_getD, List.getElem?_append_right h]
theorem Dp {α : Type _} {l : List α} {i j : Nat} {d : α} : (l.drop i).getD j d = l.getD (i + j) d := by simp [List.getD_eq_getElem?_getD]
theorem xW {α : Type _} {l : List α} {i j : Nat} {d : α} (h : j < i) : (l.take i).getD j d = l.getD j d := by simp [List.getD_eq_getElem?_getD, List.getElem?_take, h]
theorem qO {α : Type _} {l : List α} {j : Nat} {d : α} (h : j < l.length) : l.getD j d ∈ l := by rw [List.getD_eq_getElem?_getD, List.getElem?_eq_getElem h]; exact List.getElem_mem h
theorem sK.app {I : Hp} {k : IntKind} {vs us : List Value} {ls ms : List (List Int)} (h : sK I k vs ls) (g : sK I k us ms) : sK I k (vs ++ us) (ls ++ ms) := by
  refine ⟨by simp [h.1, g.1], fun j hj => ?_⟩
  by_cases hl : j < ls.length
  · rw [nG (by rw [h.1]; exact hl), nG hl]; exact h.2 j hl
  · have hj' : j - ls.length < ms.length := by simp at hj; omega
    rw [lF (by rw [h.1]; omega), lF (by omega), h.1]; exact g.2 _ hj'
theorem sK.drop {I : Hp} {k : IntKind} {vs : List Value} {ls : List (List Int)} (h : sK I k vs ls) (i : Nat) : sK I k (vs.drop i) (ls.drop i) := by
  refine ⟨by simp [h.1], fun j hj => ?_⟩
  rw [Dp, Dp]
  exact h.2 _ (by simp at hj; omega)
theorem sK.take {I : Hp} {k : IntKind} {vs : List Value} {ls : List (List Int)} (h : sK I k vs ls) (i : Nat) : sK I k (vs.take i) (ls.take i) := by
  refine ⟨by simp [h.1], fun j hj => ?_⟩
  simp at hj
  rw [xW (by omega), xW (by omega)]
  exact h.2 _ (by omega)
theorem uK.one {I : Hp} {k : IntKind} {v : Value} {l : List Int} (h : uK I k v l) : sK I k [v] [l] := ⟨rfl, fun j hj => by
  obtain rfl : j = 0 := by simp at hj; omega
  exact h⟩
theorem uK.MI {I : Hp} {k : IntKind} {v : Value} {l : List Int} (h : uK I k v l) : v.oneCell' = true := by obtain ⟨a, c, rfl, _⟩ := h; rfl
section
variable {w0 w : World} {F : HP} {e : TypeId} {k : IntKind} {v : Value} {vs us : List Value} {ls ms : List (List Int)} {l : List Int}
theorem Rd.Uu {n : Nat} {xs : List Value} (hr : Rd w 1 v n xs) {i : Nat} (h : i ≤ n) : Rd w 1 (kZ 1 0 i v) i (xs.take i) := by
  have h1 := hr.cut (Nat.zero_le i) h
  simpa using h1
end
end Go.Proofs.YtgndbccogcofjaaGreatDoor
end
section
namespace Go.Proofs.YtgndbccogcofjaaGreatDoor
open Go.RowKit
theorem MJ {α : Type _} {enc : α → List Value} {sz : Nat} (he : ∀ a, (enc a).length = sz) (l : List α) : (l.flatMap enc).length = l.length * sz := by
  induction l with
  | nil => simp
  | cons a l ih => simp [he, ih, Nat.add_mul, Nat.add_comm]
theorem mQ {α : Type _} {enc : α → List Value} {sz : Nat} (he : ∀ a, (enc a).length = sz) {l : List α} {k : Nat} (hk : k < l.length) (d : α) : ((l.flatMap enc).drop (k * sz)).take sz = enc (l.getD k d) := by
  have h1 : l = l.take k ++ l.getD k d :: l.drop (k + 1) := by
    rw [List.getD_eq_getElem?_getD, List.getElem?_eq_getElem hk]
    simp
  have h2 : ((l.take k).flatMap enc).length = k * sz := by rw [MJ he, List.length_take, Nat.min_eq_left (by omega)]
  conv => lhs; rw [h1]
  rw [List.flatMap_append, List.drop_append, h2]
  simp [h2, List.take_append, he]
theorem jG {P : Program} {L : List (Nat × Value)} {w : World} {ty : TypeId} {x : Operand} {t : TypeId} {d : TypeDesc} {b o n c sz n' k : Nat} {xs ys : List Value} (hr : Rd w sz (.slice (some ⟨b, o, none⟩) n c) n' xs) (hk : k < n') (hu : P.underlying t = some d) (hd : DV d = true) (hs : ∀ w, (sizeOf t).run P w = .ok sz w)
    (hx : ev L x = some (.pointer (some ⟨b, o + (k : Int).toNat * sz, none⟩))) (hy : (xs.drop (k * sz)).take sz = ys) (hl : ys.length = sz) : Val P L (.load t x) ty w (.agg ys.toArray) w :=
  rM (by rw [hu]; rfl) (CY hu hd) hs hl hx (fun j u hj => by
    have hjl : j < sz := by rw [← hl]; exact (List.getElem?_eq_some_iff.1 hj).1
    rw [hr.Zx hk hjl, List.getD_eq_getElem?_getD]
    rw [← hy, List.getElem?_take, if_pos hjl, List.getElem?_drop] at hj
    rw [hj]; rfl)
end Go.Proofs.YtgndbccogcofjaaGreatDoor
end
section
namespace Go.Proofs.YtgndbccogcofjaaGreatDoor
open Go.RowKit
open _root_.Go.Proofs.Tryz
section
variable {w0 w : World} {F : HP} {v d s z d2 z2 u1 u2 u3 : Value} {L dl il Tq Uw l1 l2 l3 : List Int} {a a2 : Int}
def WR (L : List Int) (a : Int) (dl : List Int) : Bool := decide (0 ≤ a ∧ a + dl.length ≤ L.length) && ((L.drop a.toNat).take dl.length == dl)
def uE (L : List Int) (a : Int) (dl il : List Int) : Int := if WR L a dl then (if 1024 < (L.length : Int) - dl.length + il.length then 3 else 0) else 1
def uL (L : List Int) (a : Int) (dl il : List Int) : List Int := if uE L a dl il = 0 then L.take a.toNat ++ il ++ L.drop (a.toNat + dl.length) else []
abbrev Ux (a : Int) (d z : Value) : Value := .agg #[.int .i64 a, d, z]
theorem oG (H : aB w0 w F) (hd : iD w0 F .i32 d dl) (hi : iD w0 F .i32 z il) (b2 : dl.length ≤ 35184372087808) (b3 : il.length ≤ 35184372087808) :
  eG prog 220 #[Ux a d z] w fun v' w' => ∃ d' s', v' = Ux a d' s' ∧ aB w0 w' (iE 21 .i32 d' dl • iE 21 .i32 s' il • F) := by
 refine fP func220 ntmps220 ?_
 dsimp only [aX, Nat.reduceAdd]
 refine ay (ah (jo (gV (l := [_, _, _]) H rfl rfl) ?_))
 rintro _ w1 ⟨b1, rfl, H1⟩
 refine jo (fJ (l := [_, _, _]) H1 zeroValue101 rfl) ?_
 rintro _ w2 ⟨b2, rfl, H2⟩
 refine aA (aj (ay ?_))
 have MK := H2.drew
 have qP := aB.kp (MK.f2.f2)
 refine xJ [1, 3, 6] qP rfl (fU 0 rfl qP 0 underlying101 rfl sizeOf3 rfl (iV 1 rfl qP (fun W hW => jr underlying3 rfl ((Kp.h hW).f2).get.2 rfl) (fU 2 rfl qP 1 underlying101 rfl sizeOf22 rfl (iV 3 rfl qP (fun W hW => jr underlying22 rfl ((Kp.h hW).f2).get.2 rfl) (fU 5 rfl qP 2 underlying101 rfl sizeOf22 rfl (iV 6 rfl qP (fun W hW => jr underlying22 rfl ((Kp.h hW).f2).get.2 rfl) (jB 4 rfl (vK rfl func178 (kN MK (fun W HW => hd _ (HW.right.right)) (by omega))) ?_)))))))
 rintro u3 w3 H3
 have Cj := aB.kp (H3.f3.f3.f3)
 refine dM Cj (fun W hW => (Kp.h hW).right.f2.f2) ?_
 refine jB 7 rfl (vK rfl func178 (kN H3 (fun W HW => hi _ (HW.right.right.right)) (by omega))) ?_
 rintro u4 w4 H4
 have uN := aB.kp (H4.f4.f4.f4.f4)
 refine dM uN (fun W hW => (Kp.h hW).right.f3.f3.f3) ?_
 obtain ⟨ZR, ZT, WS, -⟩ := jV.open ((H4.f2).aT)
 subst WS
 obtain ⟨au4, cu4, ZU, -⟩ := jV.open ((H4).aT)
 subst ZU
 refine iU 8 rfl uN (fun _ => dS (pl := #[(0, 1), (1, 1), (2, 1)]) (#[_, _, _]) underlying101 zeroValue101 (fun w => by kernel_rfl) rfl (rfl)) ?_
 refine eP 9 rfl (by kernel_rfl) (cO 0 (l' := [_, _, _]) (us := [_, _, _]) H4.f3 sizeOf101 rfl rfl rfl (aC (by first | rfl | assumption) (aC (by first | rfl | exact Rd.one ((H4.f2).aT)) (aC (by first | rfl | exact Rd.one ((H4).aT)) bP))) rfl rfl) ?_
 rintro _ w7 H7
 have xX := aB.kp (H7.f4.f4.f4.f4)
 refine eX xX (by kernel_rfl) ?_
 refine oV (aj (aJ ?_))
 refine rH (.inl rfl) (LV results220 rfl underlying101 rfl (by rw [show (prog.info? 101).map (·.size) = some 3 from by kernel_rfl]; rfl) (H7).get.2) ?_
 exact ⟨_, _, rfl, H7.right.f3.right.f2⟩
theorem xY (H : aB w0 w F) (hd : iD w0 F .i32 d dl) (hi : iD w0 F .i32 z il) (b2 : dl.length ≤ 35184372087808) (b3 : il.length ≤ 35184372087808) :
  eG prog 241 #[Ux a d z] w fun v' w' => ∃ d' s', v' = Ux a d' s' ∧ aB w0 w' (iE 21 .i32 d' il • iE 21 .i32 s' dl • F) := by
 refine fP func241 ntmps241 ?_
 dsimp only [aX, Nat.reduceAdd]
 refine ay (ah (jo (gV (l := [_, _, _]) H rfl rfl) ?_))
 rintro _ w1 ⟨b1, rfl, H1⟩
 refine jo (fJ (l := [_, _, _]) H1 zeroValue101 rfl) ?_
 rintro _ w2 ⟨b2, rfl, H2⟩
 refine aA (aj (ay (ah (aZ 0 underlying101 rfl sizeOf3 rfl (dP underlying3 rfl (H2.f2).get.2 rfl (aZ 2 underlying101 rfl sizeOf22 rfl (dP underlying22 rfl (H2.f2).get.2 rfl (aZ 1 underlying101 rfl sizeOf22 rfl (dP underlying22 rfl (H2.f2).get.2 rfl ?_)))))))))
 obtain ⟨az, cz, ez, -⟩ := jV.open (hi _ (H2.right.right))
 subst ez
 obtain ⟨ad, cd, ed, -⟩ := jV.open (hd _ (H2.right.right))
 subst ed
 refine aW (dS (pl := #[(0, 1), (1, 1), (2, 1)]) (#[_, _, _]) underlying101 zeroValue101 (fun w => by kernel_rfl) rfl (rfl)) (dn rfl func220 (oG H2 (fun W HW => hi _ (HW.right.right)) (fun W HW => hd _ (HW.right.right)) (by omega) (by omega)) ?_)
 rintro _ w5 ⟨d5, s5, rfl, H5⟩
 refine aG (cO 0 (l' := [_, _, _]) (us := [_, _, _]) H5.f3 sizeOf101 rfl rfl rfl (aC (by first | rfl | assumption) (aC (by first | rfl | exact Rd.one ((H5).aT)) (aC (by first | rfl | exact Rd.one ((H5.f2).aT)) bP))) rfl rfl) ?_
 rintro _ w6 H6
 refine aA (aj (aJ ?_))
 refine rH (.inl rfl) (LV results241 rfl underlying101 rfl (by rw [show (prog.info? 101).map (·.size) = some 3 from by kernel_rfl]; rfl) (H6).get.2) ?_
 exact ⟨_, _, rfl, H6.right.f3.right.f2.f2⟩
end
end Go.Proofs.YtgndbccogcofjaaGreatDoor
end
section
namespace Go.Proofs.YtgndbccogcofjaaGreatDoor
open Go.RowKit
section
variable {w0 w : World} {F : HP} {v d s z d2 z2 u1 u2 u3 : Value} {L dl il Tq Uw l1 l2 l3 : List Int} {a a2 : Int}
def jK (a a2 : Int) (dl il Tq Uw : List Int) : Nat := if Tq.length = 0 ∧ a2 = a + il.length then 1 else if il.length = 0 ∧ Uw.length = 0 ∧ a = a2 + Tq.length then 2 else 0
def jA (k : Nat) (a a2 : Int) : Int := if k = 1 then a else if k = 2 then a2 else 0
def jD (k : Nat) (dl Tq : List Int) : List Int := if k = 1 then dl else if k = 2 then Tq ++ dl else []
def jI (k : Nat) (il Uw : List Int) : List Int := if k = 1 then il ++ Uw else []
end
end Go.Proofs.YtgndbccogcofjaaGreatDoor
end
