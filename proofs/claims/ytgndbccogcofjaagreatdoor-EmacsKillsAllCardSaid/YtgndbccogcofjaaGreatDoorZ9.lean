import Derived.Test.YtgndbccogcofjaaGreatDoorZ2
import Derived.Test.YtgndbccogcofjaaGreatDoorZ7
import Derived.Test.YtgndbccogcofjaaGreatDoorZ4
import Derived.Test.YtgndbccogcofjaaGreatDoorZ3
set_option linter.unusedSimpArgs false
set_option linter.unusedVariables false
/- Texts of mine, joined, their names in short: Ring Ring2 Ring3 RingAny LL Flat Undo1 Undo2. -/
section
namespace Go.Proofs.YtgndbccogcofjaaGreatDoor
open Go.RowKit
open _root_.Go.Proofs.Tryz
def bM (s : List Value) (h n p : Nat) : Array Value := (Value.bool true :: (s ++ [.int .i64 h, .int .i64 n, .int .i64 p])).toArray
section
variable {s : List Value} {h n p : Nat}
theorem gV (hs : s.length = 60) : (bM s h n p).size = 64 := by simp [bM, hs]
theorem tN : (bM s h n p)[0]? = some (.bool true) := by simp [bM]
theorem Et (hs : s.length = 60) {i : Nat} (hi : i < 60) : (bM s h n p)[1 + i]? = some (s.getD i undef) := by
  simp [bM, Nat.add_comm 1 i, List.getElem?_append_left (show i < s.length by omega), List.getD_eq_getElem?_getD, show i < s.length by omega]
theorem rW (hs : s.length = 60) : (bM s h n p)[61]? = some (.int .i64 h) := by simp [bM, hs]
theorem jf (hs : s.length = 60) : (bM s h n p)[62]? = some (.int .i64 n) := by simp [bM, hs]
theorem BM (hs : s.length = 60) : (bM s h n p)[63]? = some (.int .i64 p) := by simp [bM, hs]
theorem DJ (hs : s.length = 60) (x : Nat) : (bM s h n p).setIfInBounds 61 (.int .i64 x) = bM s x n p := by
  apply Array.ext'; simp [bM, List.set_append, hs]
theorem DK (hs : s.length = 60) (x : Nat) : (bM s h n p).setIfInBounds 62 (.int .i64 x) = bM s h x p := by
  apply Array.ext'; simp [bM, List.set_append, hs]
theorem gZ (hs : s.length = 60) (x : Nat) : (bM s h n p).setIfInBounds 63 (.int .i64 x) = bM s h n x := by
  apply Array.ext'; simp [bM, List.set_append, hs]
theorem qZ (hs : s.length = 60) {i : Nat} (hi : i < 60) (v : Value) : (bM s h n p).setIfInBounds (1 + i) v = bM (s.set i v) h n p := by
  apply Array.ext'; simp [bM, Nat.add_comm 1 i, List.set_append, hs, hi]
end
def Hw (I : Hp) (s : List Value) (h : Nat) (E : List (List Int)) : Prop := ∀ i, i < E.length → wC I .i32 (s.getD ((h + i) % 60) undef) (E.getD i [])
def tV (s : List Value) (h : Nat) (E : List (List Int)) : HP := know (fun I => Hw I s h E) fun _ _ hl hk i hi => (hk i hi).mono hl
def bY (p : Nat) (E : List (List Int)) (place : Nat) : HP := qW fun (x : List Value × Nat) =>
  fact (x.1.length = 60 ∧ x.2 < 60 ∧ E.length ≤ 60 ∧ (place < E.length ∨ place = 0) ∧ (∀ e ∈ E, e.length ≤ 1024) ∧ ∀ v ∈ x.1, v.oneCell' = true) • dB p (.cells (bM x.1 x.2 E.length place) 170 (0, 0)) • tV x.1 x.2 E
section
variable {w0 w : World} {F : HP} {p place : Nat} {E : List (List Int)}
theorem aB.ring (H : aB w0 w (bY p E place • F)) : ∃ s h, s.length = 60 ∧ h < 60 ∧ E.length ≤ 60 ∧ (place < E.length ∨ place = 0) ∧ (∀ e ∈ E, e.length ≤ 1024) ∧ (∀ v ∈ s, v.oneCell' = true) ∧ aB w0 w (dB p (.cells (bM s h E.length place) 170 (0, 0)) • tV s h E • F) := by
  obtain ⟨⟨s, h⟩, H⟩ := H.lg
  obtain ⟨⟨h1, h2, h3, h4, h5, h6⟩, H⟩ := H.flat.fact
  exact ⟨s, h, h1, h2, h3, h4, h5, h6, H.flat⟩
theorem aB.lY {s : List Value} {h : Nat} (h1 : s.length = 60) (h2 : h < 60) (h3 : E.length ≤ 60) (h4 : place < E.length ∨ place = 0) (h5 : ∀ e ∈ E, e.length ≤ 1024) (h6 : ∀ v ∈ s, v.oneCell' = true) (H : aB w0 w (dB p (.cells (bM s h E.length place) 170 (0, 0)) • tV s h E • F)) : aB w0 w (bY p E place • F) :=
  aB.gQ (s, h) (aB.deep (aB.jq ⟨h1, h2, h3, h4, h5, h6⟩ H.deep))
theorem FI (H : aB w0 w F) : fA prog 109 #[] w fun v w' => ∃ p, v = .pointer (some ⟨p, 0, none⟩) ∧ aB w0 w' (bY p [] 0 • F) := by
 refine fU func109 ntmps109 ?_
 dsimp only [aY, Nat.reduceAdd]
 refine ay (ah (aU rfl (aA (aj (ay (ah (aW (dW (pl := #[(0, 1), (1, 60), (61, 1), (62, 1), (63, 1)]) (bM (List.replicate 60 (.slice none 0 0)) 0 0 0) underlying170 zeroValue170 (fun w => by kernel_rfl) rfl (by kernel_rfl)) (ji (Kw H rfl) ?_))))))))
 rintro _ w1 ⟨b1, rfl, H1⟩
 refine aU rfl (aA (aj (aJ (aI (.inl rfl) results109 rfl ?_))))
 refine ⟨b1, rfl, aB.lY (s := List.replicate 60 (.slice none 0 0)) (h := 0) (by simp) (by omega) (by simp) (.inr rfl) (by simp) (by intro v hv; rw [List.eq_of_mem_replicate hv]; rfl) ?_⟩
 exact aB.swap (aB.Fa (fun I i hi => by simp at hi) H1)
theorem gW (t : TypeId) {cs : Array Value} {fr : Nat × Nat} {m : Bool} (hb : w.heap[p]? = some (.cells cs t fr)) (h0 : cs[0]? = some (.bool m)) :
  fA prog 177 #[.pointer (some ⟨p, 0, none⟩)] w fun v w' => v = .bool (!m) ∧ w = w' := by
 refine fU func177 ntmps177 ?_
 dsimp only [aY, Nat.reduceAdd]
 refine ay (ah (aU rfl (aA (aj (ay (ah (aO rfl (aW (eu underlying28 rfl rfl) (gB rfl (fun h => by exfalso; (try simp only [aH] at h); simp at h) (fun h1 => ?_))))))))))
 (try simp only [aH] at h1)
 refine bf (aO rfl (bf (bP rfl (bf (bg 0 underlying170 rfl sizeOf4 rfl (bf (dS underlying4 rfl hb h0 (bf (aW (jS rfl) (fG rfl rfl (aU rfl (aA (aj (aJ (aI (.inl rfl) results177 rfl ?_)))))))))))))))
 exact ⟨rfl, rfl⟩
theorem aB.uY {s : List Value} {h i : Nat} (H : aB w0 w (tV s h E • F)) (hi : i < E.length) : jR w .i32 (s.getD ((h + i) % 60) undef) (E.getD i []) := let ⟨I, k, hI⟩ := H.sV; (k i hi).rd hI
theorem oC {s : List Value} {h n m : Nat} {t : TypeId} {fr : Nat × Nat} {k : Nat} (hs : s.length = 60) (hh : h < 60) (hk : k < 60) (hb : w.heap[p]? = some (.cells (bM s h n m) t fr)) :
  fA prog 179 #[.pointer (some ⟨p, 0, none⟩), .int .i64 k] w fun v w' => v = s.getD ((h + k) % 60) undef ∧ uM w w' := by
 refine fU func179 ntmps179 ?_
 dsimp only [aY, Nat.reduceAdd]
 refine ay (ah (aU rfl (aA (aj (ay ?_)))))
 refine jU (n := 13) [0, 1, 2, 3, 4, 5, 6, 7, 8, 9, 10, 11, 12] (fun W => W.heap = w.heap) (by kernel_rfl) (by kernel_rfl) rfl ?_
 have hS0 : (fun W => W.heap = w.heap) (w.drew) := rfl
 refine iE 0 rfl hS0 rfl (iE 1 rfl hS0 rfl (jF 2 rfl hS0 rfl (gG 3 rfl hS0 61 underlying170 rfl sizeOf3 rfl ?_)))
 refine je 4 rfl hS0 (fun W hW => jE underlying3 rfl (by rw [hW]; exact hb) (rW hs)) ?_
 refine iE 5 rfl hS0 rfl (jc 6 rfl hS0 (fun _ => fP rfl rfl (by omega)) ?_)
 refine jc 7 rfl hS0 (fun _ => Rq rfl rfl (by omega) (by  omega)) ?_
 refine jF 8 rfl hS0 rfl (gG 9 rfl hS0 1 underlying170 rfl sizeOf168 rfl (jc 10 rfl hS0 (fun _ => qJ underlying168 sizeOf22 rfl rfl (by omega)) ?_))
 refine je 11 rfl hS0 (fun W hW => jE underlying22 rfl (by rw [hW]; exact hb) (by rw [show (1 + (((h : Int) + (k : Int)) % 60).toNat * 1) = 1 + (h + k) % 60 from by omega]; exact Et hs (by omega))) ?_
 refine jc 12 rfl hS0 (fun _ => fO rfl) (pU (aj (aJ (aI (.inl rfl) results179 rfl ?_))))
 exact ⟨rfl, ⟨1, rfl⟩⟩
theorem FK {s : List Value} {u : Value} {i : Nat} (h : ∀ v ∈ s, v.oneCell' = true) (hu : u.oneCell' = true) : ∀ v ∈ s.set i u, v.oneCell' = true := by
  intro v hv
  rcases List.mem_or_eq_of_mem_set hv with hv | rfl
  · exact h v hv
  · exact hu
theorem Jp {I : Hp} {s : List Value} {h : Nat} {l : List Int} {v : Value} (hs : s.length = 60) (hh : h < 60) (hE : E.length ≤ 60) (hS : Hw I s h E) (hv : wC I .i32 v l) :
    Hw I (s.set ((h + 59) % 60) v) ((h + 59) % 60) ((l :: E).take 60) := by
  intro i hi
  have aaj : i < 60 ∧ i < E.length + 1 := by simp at hi; omega
  rw [List.getD_eq_getElem?_getD (l := (l :: E).take 60), List.getElem?_take, if_pos (by omega)]
  cases i with
  | zero =>
    have e : ((h + 59) % 60 + 0) % 60 = (h + 59) % 60 := by omega
    rw [e, List.getD_eq_getElem?_getD, List.getElem?_set_self (by omega)]
    exact hv
  | succ i =>
    have e : ((h + 59) % 60 + (i + 1)) % 60 = (h + i) % 60 := by omega
    have hne : ¬ (h + 59) % 60 = (h + i) % 60 := by omega
    rw [e, List.getD_eq_getElem?_getD, List.getElem?_set_ne hne, ← List.getD_eq_getElem?_getD]
    have := hS i (by omega)
    simpa [List.getD_eq_getElem?_getD] using this
theorem nY {v : Value} {l : List Int} (H : aB w0 w (bY p E place • F)) (hr : gJ w0 F .i32 v l) (hl : l.length ≤ 1024) :
    fA prog 245 #[.pointer (some ⟨p, 0, none⟩), v] w fun _ w' => aB w0 w' (bY p ((l :: E).take 60) 0 • F) := by
  obtain ⟨s, h, hs, hh, hE, hp, hm, ho, H⟩ := H.ring
  have hh' : (h + 59) % 60 < 60 := by omega
  refine fU func245 ntmps245 ?_
  dsimp only [aY, Nat.reduceAdd]
  refine ay (ah (aO rfl (aO rfl (bP rfl (bg 61 underlying170 rfl sizeOf3 rfl (dS underlying3 rfl H.get.2 (rW hs) (aW (fP rfl rfl (by omega)) (aW (iq rfl rfl (by omega)) ?_))))))))
  refine aW (Rq rfl rfl (by omega) (by  omega)) ?_
  refine bP rfl (bg 61 underlying170 rfl sizeOf3 rfl (aG (dA H sizeOf3 rfl rfl rfl (by rw [gV hs]; decide)) ?_))
  rintro _ w1 H1
  rw [show (((h : Int) + 60 - 1) % 60) = (((h + 59) % 60 : Nat) : Int) from by omega, DJ hs] at H1
  refine aA (aj (ay ?_))
  refine jU (n := 11) [0, 1, 2, 3, 4, 5, 6, 7, 8, 9, 10] (fun W => W.heap[p]? = some (.cells (bM s ((h + 59) % 60) E.length place) 170 (0, 0))) (by kernel_rfl) (by kernel_rfl) rfl ?_
  have hS0 : (fun W => W.heap[p]? = some (.cells (bM s ((h + 59) % 60) E.length place) 170 (0, 0))) (w1.drew) := H1.get.2
  have H1d := H1.drew
  refine iE 0 rfl hS0 rfl (iE 1 rfl hS0 rfl (jF 2 rfl hS0 rfl (gG 3 rfl hS0 61 underlying170 rfl sizeOf3 rfl (je 4 rfl hS0 (fun W hW => jE underlying3 rfl hW (rW hs)) (iE 5 rfl hS0 rfl (jF 7 rfl hS0 rfl (gG 8 rfl hS0 1 underlying170 rfl sizeOf168 rfl (jQ 6 rfl (wK rfl func178 (lG H1d hr.under.under (by omega))) ?_))))))))
  rintro u w2 H2
  have hS2 : (fun W => W.heap[p]? = some (.cells (bM s ((h + 59) % 60) E.length place) 170 (0, 0))) w2 := H2.swap.get.2
  refine xU hS2 ?_
  refine jc 9 rfl hS2 (fun _ => qJ underlying168 sizeOf22 rfl rfl (by omega)) ?_
  refine fH 10 rfl (by kernel_rfl) (dA H2.swap sizeOf22 rfl rfl H2.aT.one (by rw [gV hs]; omega)) ?_
  rintro _ w3 H3
  rw [show (1 + ((((h + 59) % 60 : Nat) : Int)).toNat * 1) = 1 + (h + 59) % 60 from by omega, qZ hs hh'] at H3
  have hs' : (s.set ((h + 59) % 60) u).length = 60 := by simp [hs]
  have ho' := FK ho (u := u) (i := (h + 59) % 60) H2.aT.one
  refine Ba (by kernel_rfl) ?_
  refine pU (aj (ay (ah (aO rfl (aO rfl (bP rfl (bg 62 underlying170 rfl sizeOf3 rfl (dS underlying3 rfl H3.get.2 (jf hs') (aW (fP rfl rfl (by omega)) (aW (Rw rfl rfl) (bP rfl (bg 62 underlying170 rfl sizeOf3 rfl (aG (dA H3 sizeOf3 rfl rfl rfl (by rw [gV hs']; decide)) ?_)))))))))))))
  rintro _ w4 H4
  rw [show min ((E.length : Int) + 1) 60 = ((min (E.length + 1) 60 : Nat) : Int) from by omega, DK hs'] at H4
  refine aA (aj (ah (aO rfl (bP rfl (bg 63 underlying170 rfl sizeOf3 rfl (aG (dA H4 sizeOf3 rfl rfl rfl (by rw [gV hs']; decide)) ?_))))))
  rintro _ w5 H5
  rw [show (Value.int .i64 0) = .int .i64 ((0 : Nat) : Int) from rfl, gZ hs'] at H5
  refine aA (fM (.inr rfl) results245 ?_)
  have hlen : ((l :: E).take 60).length = min (E.length + 1) 60 := by simp; omega
  refine aB.lY hs' hh' (by omega) (.inr rfl) ?_ ho' ?_
  · intro e he
    rcases List.mem_cons.1 (List.mem_of_mem_take he) with rfl | he
    · exact hl
    · exact hm e he
  · rw [hlen]
    exact (H5.swap.jv.Dx.Dy (oq (fun I a b => Jp hs hh hE a b) _)).swap
end
end Go.Proofs.YtgndbccogcofjaaGreatDoor
end
section
namespace Go.Proofs.YtgndbccogcofjaaGreatDoor
open Go.RowKit
open _root_.Go.Proofs.Tryz
def uZ (E : List (List Int)) (place : Nat) (way : Int) (l : List Int) : Int × List (List Int) × Nat :=
  if way < 0 ∨ 2 < way then (1, E, place)
  else if 1024 < l.length then (3, E, place)
  else if way ≠ 0 ∧ 0 < E.length then
    if 1024 < l.length + (E.getD 0 []).length then (3, E, place)
    else (0, (if way = 1 then E.getD 0 [] ++ l else l ++ E.getD 0 []) :: E.tail, 0)
  else if way = 0 ∧ l.length = 0 then (0, E, place)
  else (0, (l :: E).take 60, 0)
theorem zO {I : Hp} {s : List Value} {h : Nat} {l : List Int} {v : Value} {E : List (List Int)} (hs : s.length = 60) (hh : h < 60) (hE : E.length ≤ 60) (h0 : 0 < E.length) (hS : Hw I s h E) (hv : wC I .i32 v l) :
    Hw I (s.set h v) h (l :: E.tail) := by
  intro i hi
  have hi' : i < E.length := by simp at hi; omega
  cases i with
  | zero =>
    have e : (h + 0) % 60 = h := by omega
    rw [e, List.getD_eq_getElem?_getD, List.getElem?_set_self (by omega)]
    exact hv
  | succ i =>
    have hne : ¬ h = (h + (i + 1)) % 60 := by omega
    rw [List.getD_eq_getElem?_getD, List.getElem?_set_ne hne, ← List.getD_eq_getElem?_getD]
    have := hS (i + 1) hi'
    simpa [List.getD_eq_getElem?_getD] using this
section
variable {w0 w : World} {F : HP} {p place : Nat} {E : List (List Int)} {v : Value} {l : List Int} {way : Int}
theorem nZ (h0 : 0 < E.length) (x : List Int) : (x :: E.tail).length = E.length := by simp; omega
theorem DL (H : aB w0 w (bY p E place • F)) (hr : gJ w0 F .i32 v l) (hw : way < 0 ∨ 2 < way) :
  fA prog 233 #[.pointer (some ⟨p, 0, none⟩), .int .i64 way, v] w fun v' w' => v' = .int .i64 1 ∧ aB w0 w' (bY p E place • F) := by
 obtain ⟨s, h, hs, hh, hE, hp, hm, ho, H1⟩ := H.ring
 have hb := H1.get.2
 refine fU func233 ntmps233 ?_
 dsimp only [aY, Nat.reduceAdd]
 refine ay (ah (aU rfl (aA (aj (ay (ay (ah (aO rfl (bZ rfl func177 (gW _ hb tN) ?_)))))))))
 rintro _ _ ⟨rfl, rfl⟩
 refine aA (aj (oK (aP (aj (ay (ay (ah (aO rfl (aW (fE rfl rfl) (gB rfl (fun h1 => ?_) (fun h1 => ?_)))))))))))
 ·(try simp only [aH] at h1)
  try (exfalso; first | contradiction | omega)
  all_goals
   refine bD (bD (fQ rfl rfl (aA (aj (wB (ay (ah (aU rfl (aA (aj (aJ (aK (aI (.inl rfl) results233 rfl ?_)))))))))))))
   exact ⟨rfl, H⟩
 ·(try simp only [aH] at h1)
  try (exfalso; first | contradiction | omega)
  all_goals
   refine bf (aO rfl (bf (aW (dn rfl rfl) (fG rfl rfl (aA (aj (aN rfl (fun h2 => ?_) (fun h => by exfalso; (try simp only [aH] at h); first | contradiction | omega | (simp at h <;> omega)))))))))
   (try simp only [aH] at h2)
   refine ay (ah (aU rfl (aA (aj (aJ (aK (aI (.inl rfl) results233 rfl ?_)))))))
   exact ⟨rfl, H⟩
theorem BN (H : aB w0 w (bY p E place • F)) (hr : gJ w0 F .i32 v l) (hw : 0 ≤ way ∧ way ≤ 2) (hl : 1024 < l.length) :
  fA prog 233 #[.pointer (some ⟨p, 0, none⟩), .int .i64 way, v] w fun v' w' => v' = .int .i64 3 ∧ aB w0 w' (bY p E place • F) := by
 obtain ⟨s, h, hs, hh, hE, hp, hm, ho, H1⟩ := H.ring
 have hb := H1.get.2
 obtain ⟨a, c, rfl, _, _, _⟩ := (hr w H.right).open
 refine fU func233 ntmps233 ?_
 dsimp only [aY, Nat.reduceAdd]
 refine ay (ah (aU rfl (aA (aj (ay (ay (ah (aO rfl (bZ rfl func177 (gW _ hb tN) ?_)))))))))
 rintro _ _ ⟨rfl, rfl⟩
 refine aA (aj (oK (aP (aj (ay (ay (ah (aO rfl (aW (fE rfl rfl) (gB rfl (fun h => by exfalso; (try simp only [aH] at h); first | contradiction | omega | (simp at h <;> omega)) (fun h1 => ?_)))))))))))
 (try simp only [aH] at h1)
 refine bf (aO rfl (bf (aW (dn rfl rfl) (fG rfl rfl (aA (aj (aN rfl (fun h => by exfalso; (try simp only [aH] at h); first | contradiction | omega | (simp at h <;> omega)) (fun h2 => ?_))))))))
 (try simp only [aH] at h2)
 refine aP (aj (ay (ah (aO rfl (aW (dK rfl rfl) (gB rfl (fun h3 => ?_) (fun h3 => ?_)))))))
 ·(try simp only [aH] at h3)
  try (exfalso; first | contradiction | omega)
  all_goals
   refine bf (aO rfl (bf (bP rfl (bf (bg 62 underlying170 rfl sizeOf3 rfl (bf (dS underlying3 rfl hb (jf hs) (bf (aW (dn rfl rfl) (fQ rfl rfl (aU rfl (aA (aj (ay (bC (ay (ah (aO rfl (aW (fJ underlying22 rfl) (aW (dn rfl rfl) (gB rfl (fun h4 => ?_) (fun h => by exfalso; (try simp only [aH] at h); first | contradiction | omega | (simp at h <;> omega)))))))))))))))))))))))
   (try simp only [aH] at h4)
   refine bD (bD (lq (lq (lq (lq (lq (lq (lq (bD (fQ rfl rfl (aU rfl (aA (aj (wB (ay (ah (aU rfl (aA (aj (aJ (aV (aK (aI (.inl rfl) results233 rfl ?_)))))))))))))))))))))))
   exact ⟨rfl, H⟩
 ·(try simp only [aH] at h3)
  try (exfalso; first | contradiction | omega)
  all_goals
   refine bD (bD (bD (bD (bD (fG rfl rfl (aU rfl (aA (aj (ay (bC (ay (ah (aO rfl (aW (fJ underlying22 rfl) (aW (dn rfl rfl) (gB rfl (fun h5 => ?_) (fun h => by exfalso; (try simp only [aH] at h); first | contradiction | omega | (simp at h <;> omega))))))))))))))))))
   (try simp only [aH] at h5)
   refine bD (bD (lq (lq (lq (lq (lq (lq (lq (bD (fQ rfl rfl (aU rfl (aA (aj (wB (ay (ah (aU rfl (aA (aj (aJ (aV (aK (aI (.inl rfl) results233 rfl ?_)))))))))))))))))))))))
   exact ⟨rfl, H⟩
theorem yu (H : aB w0 w (bY p E place • F)) (hr : gJ w0 F .i32 v l) (hl : l.length = 0) :
  fA prog 233 #[.pointer (some ⟨p, 0, none⟩), .int .i64 0, v] w fun v' w' => v' = .int .i64 0 ∧ aB w0 w' (bY p E place • F) := by
 obtain ⟨s, h, hs, hh, hE, hp, hm, ho, H1⟩ := H.ring
 have hb := H1.get.2
 obtain ⟨a, c, rfl, _, _, _⟩ := (hr w H.right).open
 refine fU func233 ntmps233 ?_
 dsimp only [aY, Nat.reduceAdd]
 refine ay (ah (aU rfl (aA (aj (ay (ay (ah (aO rfl (bZ rfl func177 (gW _ hb tN) ?_)))))))))
 rintro _ _ ⟨rfl, rfl⟩
 refine aA (aj (oK (aP (aj (ay (ay (ah (aO rfl (aW (fE rfl rfl) (gB rfl (fun h => by exfalso; (try simp only [aH] at h); first | contradiction | omega | (simp at h <;> omega)) (fun h1 => ?_)))))))))))
 (try simp only [aH] at h1)
 refine bf (aO rfl (bf (aW (dn rfl rfl) (fG rfl rfl (aA (aj (aN rfl (fun h => by exfalso; (try simp only [aH] at h); first | contradiction | omega | (simp at h <;> omega)) (fun h2 => ?_))))))))
 (try simp only [aH] at h2)
 refine aP (aj (ay (ah (aO rfl (aW (dK rfl rfl) (gB rfl (fun h => by exfalso; (try simp only [aH] at h); first | contradiction | omega | (simp at h <;> omega)) (fun h3 => ?_)))))))
 (try simp only [aH] at h3)
 refine bD (bD (bD (bD (bD (fG rfl rfl (aU rfl (aA (aj (ay (bC (ay (ah (aO rfl (aW (fJ underlying22 rfl) (aW (dn rfl rfl) (gB rfl (fun h => by exfalso; (try simp only [aH] at h); first | contradiction | omega | (simp at h <;> omega)) (fun h4 => ?_)))))))))))))))))
 (try simp only [aH] at h4)
 refine bf (aO rfl (bf (aO rfl (bD (bD (bD (bD (bD (bD (bD (bf (fG rfl rfl (fG rfl rfl (aU rfl (aA (aj (oK (ay (ah (aO rfl (aW (eX rfl rfl) (gB rfl (fun h5 => ?_) (fun h => by exfalso; (try simp only [aH] at h); first | contradiction | omega | (simp at h <;> omega))))))))))))))))))))))))
 (try simp only [aH] at h5)
 refine bf (aO rfl (bf (aW (fJ underlying22 rfl) (bf (aW (eX rfl rfl) (fQ rfl rfl (aU rfl (aA (aj (aN rfl (fun h6 => ?_) (fun h => by exfalso; (try simp only [aH] at h); first | contradiction | omega | (simp at h <;> omega))))))))))))
 (try simp only [aH] at h6)
 refine ay (ah (aU rfl (aA (aj (aJ (aV (aK (aI (.inl rfl) results233 rfl ?_))))))))
 exact ⟨rfl, H⟩
theorem DN (H : aB w0 w (bY p E place • F)) (hr : gJ w0 F .i32 v l) (hw : 0 ≤ way ∧ way ≤ 2) (hl : l.length ≤ 1024) (hj : way = 0 ∨ E.length = 0) (hn : ¬ (way = 0 ∧ l.length = 0)) :
  fA prog 233 #[.pointer (some ⟨p, 0, none⟩), .int .i64 way, v] w fun v' w' => v' = .int .i64 0 ∧ aB w0 w' (bY p ((l :: E).take 60) 0 • F) := by
 obtain ⟨s, h, hs, hh, hE, hp, hm, ho, H1⟩ := H.ring
 have hb := H1.get.2
 obtain ⟨a, c, hv, _, _, _⟩ := (hr w H.right).open
 subst hv
 refine fU func233 ntmps233 ?_
 dsimp only [aY, Nat.reduceAdd]
 refine ay (ah (aU rfl (aA (aj (ay (ay (ah (aO rfl (bZ rfl func177 (gW _ hb tN) ?_)))))))))
 rintro _ _ ⟨rfl, rfl⟩
 refine aA (aj (oK (aP (aj (ay (ay (ah (aO rfl (aW (fE rfl rfl) (gB rfl (fun h => by exfalso; (try simp only [aH] at h); first | contradiction | omega | (simp at h <;> omega)) (fun h1 => ?_)))))))))))
 (try simp only [aH] at h1)
 refine bf (aO rfl (bf (aW (dn rfl rfl) (fG rfl rfl (aA (aj (aN rfl (fun h => by exfalso; (try simp only [aH] at h); first | contradiction | omega | (simp at h <;> omega)) (fun h2 => ?_))))))))
 (try simp only [aH] at h2)
 refine aP (aj (ay (ah (aO rfl (aW (dK rfl rfl) (gB rfl (fun h3 => ?_) (fun h3 => ?_)))))))
 ·(try simp only [aH] at h3)
  try (exfalso; first | contradiction | omega)
  all_goals
   refine bf (aO rfl (bf (bP rfl (bf (bg 62 underlying170 rfl sizeOf3 rfl (bf (dS underlying3 rfl hb (jf hs) (bf ?_))))))))
   refine aW (Ec (dn rfl rfl) (by first | (rw [decide_eq_true_eq]; omega) | (rw [decide_eq_false_iff_not]; omega) | (rw [beq_iff_eq]; omega) | (rw [beq_eq_false_iff_ne]; omega) | (rw [bne_iff_ne]; omega) | (rw [bne_eq_false_iff_eq]; omega) | (simp; done) | (simp; omega))) ?_
   refine fQ rfl rfl (aU rfl (aA (aj (ay (bC (ay (ah (aO rfl (aW (fJ underlying22 rfl) (aW (dn rfl rfl) (gB rfl (fun h => by exfalso; (try simp only [aH] at h); first | contradiction | omega | (simp at h <;> omega)) (fun h4 => ?_))))))))))))
   (try simp only [aH] at h4)
   refine bf (aO rfl (bf (aO rfl (bD (bD (bD (bD (bD (bD (bD (bf (fG rfl rfl (fG rfl rfl (aU rfl (aA (aj (oK (ay (ah (aO rfl (aW (eX rfl rfl) (gB rfl (fun h5 => ?_) (fun h5 => ?_)))))))))))))))))))))))
   ·(try simp only [aH] at h5)
    try (exfalso; first | contradiction | omega)
    all_goals
     refine bf (aO rfl (bf (aW (fJ underlying22 rfl) (bf (aW (eX rfl rfl) (fQ rfl rfl (aU rfl (aA (aj (aN rfl (fun h => by exfalso; (try simp only [aH] at h); first | contradiction | omega | (simp at h <;> omega)) (fun h6 => ?_)))))))))))
     (try simp only [aH] at h6)
     refine ay (ah (aO rfl (aW (jS rfl) (aU rfl (aA (aj (aN rfl (fun h7 => ?_) (fun h7 => ?_))))))))
     ·(try simp only [aH] at h7)
      try (exfalso; first | contradiction | omega)
      all_goals
       refine ah (aO rfl (aO rfl (bZ rfl func245 (nY H hr hl) ?_)))
       rintro _ w2 H7
       obtain ⟨s2, h2, hs2, hh2, hE2, hp2, hm2, ho2, H2⟩ := H7.ring
       refine aA (aS (aj (ay (ah (aO rfl (bP rfl (bg 63 underlying170 rfl sizeOf3 rfl (aG (dA H2 sizeOf3 rfl rfl rfl (by rw [gV hs2]; decide)) ?_))))))))
       rintro _ w3 H8
       rw [show (Value.int .i64 0) = .int .i64 ((0 : Nat) : Int) from rfl, gZ hs2] at H8
       refine aA (aj (ay (ah (aU rfl (aA (aj (aJ (aI (.inl rfl) results233 rfl ?_))))))))
       exact ⟨rfl, aB.lY hs2 hh2 hE2 hp2 hm2 ho2 H8⟩
     ·(try simp only [aH] at h7)
      try (exfalso; first | contradiction | omega)
      all_goals
       refine ay (ah (aO rfl (aW (eX rfl rfl) (aU rfl (aA (aj (aN rfl (fun h8 => ?_) (fun h8 => ?_))))))))
       ·(try simp only [aH] at h8)
        exfalso; first | contradiction | omega
       ·(try simp only [aH] at h8)
        exfalso; first | contradiction | omega
   ·(try simp only [aH] at h5)
    try (exfalso; first | contradiction | omega)
    all_goals
     refine bD (bD (bD (fG rfl rfl (aU rfl (aA (aj (oK (ay (ah (aO rfl (aW (jS rfl) (aU rfl (aA (aj (aN rfl (fun h9 => ?_) (fun h9 => ?_))))))))))))))))
     ·(try simp only [aH] at h9)
      try (exfalso; first | contradiction | omega)
      all_goals
       refine ah (aO rfl (aO rfl (bZ rfl func245 (nY H hr hl) ?_)))
       rintro _ Me H7
       obtain ⟨s2, h2, hs2, hh2, hE2, hp2, hm2, ho2, H2⟩ := H7.ring
       refine aA (aS (aj (ay (ah (aO rfl (bP rfl (bg 63 underlying170 rfl sizeOf3 rfl (aG (dA H2 sizeOf3 rfl rfl rfl (by rw [gV hs2]; decide)) ?_))))))))
       rintro _ Oe H8
       rw [show (Value.int .i64 0) = .int .i64 ((0 : Nat) : Int) from rfl, gZ hs2] at H8
       refine aA (aj (ay (ah (aU rfl (aA (aj (aJ (aI (.inl rfl) results233 rfl ?_))))))))
       exact ⟨rfl, aB.lY hs2 hh2 hE2 hp2 hm2 ho2 H8⟩
     ·(try simp only [aH] at h9)
      try (exfalso; first | contradiction | omega)
      all_goals
       refine ay (ah (aO rfl (aW (eX rfl rfl) (aU rfl (aA (aj (aN rfl (fun h10 => ?_) (fun h10 => ?_))))))))
       ·(try simp only [aH] at h10)
        exfalso; first | contradiction | omega
       ·(try simp only [aH] at h10)
        exfalso; first | contradiction | omega
 ·(try simp only [aH] at h3)
  try (exfalso; first | contradiction | omega)
  all_goals
   refine bD (bD (bD (bD (bD (fG rfl rfl (aU rfl (aA (aj (ay (bC (ay (ah (aO rfl (aW (fJ underlying22 rfl) (aW (dn rfl rfl) (gB rfl (fun h => by exfalso; (try simp only [aH] at h); first | contradiction | omega | (simp at h <;> omega)) (fun h11 => ?_)))))))))))))))))
   (try simp only [aH] at h11)
   refine bf (aO rfl (bf (aO rfl (bD (bD (bD (bD (bD (bD (bD (bf (fG rfl rfl (fG rfl rfl (aU rfl (aA (aj (oK (ay (ah (aO rfl (aW (eX rfl rfl) (gB rfl (fun h12 => ?_) (fun h12 => ?_)))))))))))))))))))))))
   ·(try simp only [aH] at h12)
    try (exfalso; first | contradiction | omega)
    all_goals
     refine bf (aO rfl (bf (aW (fJ underlying22 rfl) (bf (aW (eX rfl rfl) (fQ rfl rfl (aU rfl (aA (aj (aN rfl (fun h => by exfalso; (try simp only [aH] at h); first | contradiction | omega | (simp at h <;> omega)) (fun h13 => ?_)))))))))))
     (try simp only [aH] at h13)
     refine ay (ah (aO rfl (aW (jS rfl) (aU rfl (aA (aj (aN rfl (fun h14 => ?_) (fun h14 => ?_))))))))
     ·(try simp only [aH] at h14)
      try (exfalso; first | contradiction | omega)
      all_goals
       refine ah (aO rfl (aO rfl (bZ rfl func245 (nY H hr hl) ?_)))
       rintro _ Vg H7
       obtain ⟨s2, h2, hs2, hh2, hE2, hp2, hm2, ho2, H2⟩ := H7.ring
       refine aA (aS (aj (ay (ah (aO rfl (bP rfl (bg 63 underlying170 rfl sizeOf3 rfl (aG (dA H2 sizeOf3 rfl rfl rfl (by rw [gV hs2]; decide)) ?_))))))))
       rintro _ Vh H8
       rw [show (Value.int .i64 0) = .int .i64 ((0 : Nat) : Int) from rfl, gZ hs2] at H8
       refine aA (aj (ay (ah (aU rfl (aA (aj (aJ (aI (.inl rfl) results233 rfl ?_))))))))
       exact ⟨rfl, aB.lY hs2 hh2 hE2 hp2 hm2 ho2 H8⟩
     ·(try simp only [aH] at h14)
      try (exfalso; first | contradiction | omega)
      all_goals
       refine ay (ah (aO rfl (aW (eX rfl rfl) (aU rfl (aA (aj (aN rfl (fun h15 => ?_) (fun h15 => ?_))))))))
       ·(try simp only [aH] at h15)
        exfalso; first | contradiction | omega
       ·(try simp only [aH] at h15)
        exfalso; first | contradiction | omega
   ·(try simp only [aH] at h12)
    try (exfalso; first | contradiction | omega)
    all_goals
     refine bD (bD (bD (fG rfl rfl (aU rfl (aA (aj (oK (ay (ah (aO rfl (aW (jS rfl) (aU rfl (aA (aj (aN rfl (fun h16 => ?_) (fun h16 => ?_))))))))))))))))
     ·(try simp only [aH] at h16)
      try (exfalso; first | contradiction | omega)
      all_goals
       refine ah (aO rfl (aO rfl (bZ rfl func245 (nY H hr hl) ?_)))
       rintro _ Vl H7
       obtain ⟨s2, h2, hs2, hh2, hE2, hp2, hm2, ho2, H2⟩ := H7.ring
       refine aA (aS (aj (ay (ah (aO rfl (bP rfl (bg 63 underlying170 rfl sizeOf3 rfl (aG (dA H2 sizeOf3 rfl rfl rfl (by rw [gV hs2]; decide)) ?_))))))))
       rintro _ ZE H8
       rw [show (Value.int .i64 0) = .int .i64 ((0 : Nat) : Int) from rfl, gZ hs2] at H8
       refine aA (aj (ay (ah (aU rfl (aA (aj (aJ (aI (.inl rfl) results233 rfl ?_))))))))
       exact ⟨rfl, aB.lY hs2 hh2 hE2 hp2 hm2 ho2 H8⟩
     ·(try simp only [aH] at h16)
      try (exfalso; first | contradiction | omega)
      all_goals
       refine ay (ah (aO rfl (aW (eX rfl rfl) (aU rfl (aA (aj (aN rfl (fun h17 => ?_) (fun h17 => ?_))))))))
       ·(try simp only [aH] at h17)
        exfalso; first | contradiction | omega
       ·(try simp only [aH] at h17)
        exfalso; first | contradiction | omega
theorem DR (H : aB w0 w (bY p E place • F)) (hr : gJ w0 F .i32 v l) (hw : 0 < way ∧ way ≤ 2) (hl : l.length ≤ 1024) (hE0 : 0 < E.length) (hj : 1024 < l.length + (E.getD 0 []).length) :
  fA prog 233 #[.pointer (some ⟨p, 0, none⟩), .int .i64 way, v] w fun v' w' => v' = .int .i64 3 ∧ aB w0 w' (bY p E place • F) := by
 obtain ⟨s, h, hs, hh, hE, hp, hm, ho, H1⟩ := H.ring
 have hb := H1.get.2
 obtain ⟨a, c, hv, _, _, _⟩ := (hr w H.right).open
 subst hv
 have hm0 : (E.getD 0 []).length ≤ 1024 := hm _ (by rw [List.getD_eq_getElem?_getD, List.getElem?_eq_getElem hE0]; simp)
 refine fU func233 ntmps233 ?_
 dsimp only [aY, Nat.reduceAdd]
 refine ay (ah (aU rfl (aA (aj (ay (ay (ah (aO rfl (bZ rfl func177 (gW _ hb tN) ?_)))))))))
 rintro _ _ ⟨rfl, rfl⟩
 refine aA (aj (oK (aP (aj (ay (ay (ah (aO rfl (aW (fE rfl rfl) (gB rfl (fun h => by exfalso; (try simp only [aH] at h); first | contradiction | omega | (simp at h <;> omega)) (fun h1 => ?_)))))))))))
 (try simp only [aH] at h1)
 refine bf (aO rfl (bf (aW (dn rfl rfl) (fG rfl rfl (aA (aj (aN rfl (fun h => by exfalso; (try simp only [aH] at h); first | contradiction | omega | (simp at h <;> omega)) (fun h2 => ?_))))))))
 (try simp only [aH] at h2)
 refine aP (aj (ay (ah (aO rfl (aW (dK rfl rfl) (gB rfl (fun h3 => ?_) (fun h => by exfalso; (try simp only [aH] at h); first | contradiction | omega | (simp at h <;> omega))))))))
 (try simp only [aH] at h3)
 refine bf (aO rfl (bf (bP rfl (bf (bg 62 underlying170 rfl sizeOf3 rfl (bf (dS underlying3 rfl hb (jf hs) (bf ?_))))))))
 refine aW (lD (dn rfl rfl) (by first | (rw [decide_eq_true_eq]; omega) | (rw [decide_eq_false_iff_not]; omega) | (rw [beq_iff_eq]; omega) | (rw [beq_eq_false_iff_ne]; omega) | (rw [bne_iff_ne]; omega) | (rw [bne_eq_false_iff_eq]; omega) | (simp; done) | (simp; omega))) ?_
 refine fQ rfl rfl (aU rfl (aA (aj (ay (bC (ay (ah (aO rfl (aW (fJ underlying22 rfl) (aW (dn rfl rfl) (gB rfl (fun h => by exfalso; (try simp only [aH] at h); first | contradiction | omega | (simp at h <;> omega)) (fun h4 => ?_))))))))))))
 (try simp only [aH] at h4)
 refine bf (aO rfl (bf (aO rfl (bf (aO rfl (bf (aW (fJ underlying22 rfl) (bf (aO rfl (bf (bZ rfl func179 (oC (k := 0) hs hh (by omega) hb) ?_)))))))))))
 rintro _ w2 ⟨rfl, hD⟩
 obtain ⟨a0, c0, e0, _, _, _⟩ := ((H1.qI hD).right.uY (i := 0) hE0).open
 rw [e0]
 refine bf (aW (fJ underlying22 rfl) (bf (aW (iq rfl rfl (by omega)) (bf ?_))))
 refine aW (lD (dn rfl rfl) (by first | (rw [decide_eq_true_eq]; omega) | (rw [decide_eq_false_iff_not]; omega) | (rw [beq_iff_eq]; omega) | (rw [beq_eq_false_iff_ne]; omega) | (rw [bne_iff_ne]; omega) | (rw [bne_eq_false_iff_eq]; omega) | (simp; done) | (simp; omega))) ?_
 refine bf (fQ rfl rfl (fG rfl rfl (aU rfl (aA (aj (wB (ay (ah (aU rfl (aA (aj (aJ (aV (aK (aI (.inl rfl) results233 rfl ?_)))))))))))))))
 exact ⟨rfl, H.qI hD⟩
theorem BO (H : aB w0 w (bY p E place • F)) (hr : gJ w0 F .i32 v l) (hw : 0 < way ∧ way ≤ 2) (hE0 : 0 < E.length) (hj : l.length + (E.getD 0 []).length ≤ 1024) :
    fA prog 233 #[.pointer (some ⟨p, 0, none⟩), .int .i64 way, v] w fun v' w' => v' = .int .i64 0 ∧ aB w0 w' (bY p ((if way = 1 then E.getD 0 [] ++ l else l ++ E.getD 0 []) :: E.tail) 0 • F) := by
  obtain ⟨s, h, hs, hh, hE, hp, hm, ho, H⟩ := H.ring
  have hb := H.get.2
  obtain ⟨a, c, hv, _, _, _⟩ := (hr w H.right.right).open
  subst hv
  have hm0 : (E.getD 0 []).length ≤ 1024 := hm _ (by rw [List.getD_eq_getElem?_getD, List.getElem?_eq_getElem hE0]; simp)
  have ZO := Et (h := h) (n := E.length) (p := place) hs (i := (h + 0) % 60) (by omega)
  refine fU func233 ntmps233 ?_
  dsimp only [aY, Nat.reduceAdd]
  refine ay (ah (aU rfl (aA (aj (ay (ay (ah (aO rfl (bZ rfl func177 (gW _ hb tN) ?_)))))))))
  rintro _ _ ⟨rfl, rfl⟩
  refine aA (aj (oK (aP (aj (ay (ay (ah (aO rfl (aW (fE rfl rfl) (gB rfl (fun h => by exfalso; (try simp only [aH] at h); first | contradiction | omega | (simp at h <;> omega)) (fun h1 => ?_)))))))))))
  (try simp only [aH] at h1)
  refine bf (aO rfl (bf (aW (dn rfl rfl) (fG rfl rfl (aA (aj (aN rfl (fun h => by exfalso; (try simp only [aH] at h); first | contradiction | omega | (simp at h <;> omega)) (fun h2 => ?_))))))))
  (try simp only [aH] at h2)
  refine aP (aj (ay (ah (aO rfl (aW (dK rfl rfl) (gB rfl (fun h3 => ?_) (fun h => by exfalso; (try simp only [aH] at h); first | contradiction | omega | (simp at h <;> omega))))))))
  (try simp only [aH] at h3)
  refine bf (aO rfl (bf (bP rfl (bf (bg 62 underlying170 rfl sizeOf3 rfl (bf (dS underlying3 rfl hb (jf hs) (bf ?_))))))))
  refine aW (lD (dn rfl rfl) (by first | (rw [decide_eq_true_eq]; omega) | (rw [decide_eq_false_iff_not]; omega) | (rw [beq_iff_eq]; omega) | (rw [beq_eq_false_iff_ne]; omega) | (rw [bne_iff_ne]; omega) | (rw [bne_eq_false_iff_eq]; omega) | (simp; done) | (simp; omega))) ?_
  refine fQ rfl rfl (aU rfl (aA (aj (ay (bC (ay (ah (aO rfl (aW (fJ underlying22 rfl) (aW (dn rfl rfl) (gB rfl (fun h => by exfalso; (try simp only [aH] at h); first | contradiction | omega | (simp at h <;> omega)) (fun h4 => ?_))))))))))))
  (try simp only [aH] at h4)
  refine bf (aO rfl (bf (aO rfl (bf (aO rfl (bf (aW (fJ underlying22 rfl) (bf (aO rfl (bf (bZ rfl func179 (oC (k := 0) hs hh (by omega) hb) ?_)))))))))))
  rintro _ w2 ⟨rfl, hD⟩
  obtain ⟨a0, c0, e0, _, _, _⟩ := ((H.qI hD).right.uY (i := 0) hE0).open
  rw [e0]
  have mJ := H.qI hD
  refine bf (aW (fJ underlying22 rfl) (bf (aW (iq rfl rfl (by omega)) (bf ?_))))
  refine aW (Ec (dn rfl rfl) (by first | (rw [decide_eq_true_eq]; omega) | (rw [decide_eq_false_iff_not]; omega) | (rw [beq_iff_eq]; omega) | (rw [beq_eq_false_iff_ne]; omega) | (rw [bne_iff_ne]; omega) | (rw [bne_eq_false_iff_eq]; omega) | (simp; done) | (simp; omega))) ?_
  refine bf (fQ rfl rfl (fG rfl rfl (aU rfl (aA (aj (oK (ay (ah (aO rfl (aW (eX rfl rfl) (gB rfl (fun h => by exfalso; (try simp only [aH] at h); first | contradiction | omega | (simp at h <;> omega)) (fun h5 => ?_))))))))))))
  (try simp only [aH] at h5)
  refine bD (bD (bD (fG rfl rfl (aU rfl (aA (aj (oK (ay (ah (aO rfl (aW (jS rfl) (aU rfl (aA (aj (aN rfl (fun h => by exfalso; (try simp only [aH] at h); first | contradiction | omega | (simp at h <;> omega)) (fun h6 => ?_))))))))))))))))
  (try simp only [aH] at h6)
  refine ay (ah (aO rfl (aW (eX rfl rfl) (aU rfl (aA (aj (aN rfl (fun h7 => ?_) (fun h7 => ?_))))))))
  · (try simp only [aH] at h7)
    try (exfalso; first | contradiction | omega)
    all_goals
      have hw1 : way = 1 := by omega
      refine jU (n := 14) [0, 1, 2, 3, 4, 5, 6, 7, 8, 9, 10, 11, 12, 13] (fun W => W.heap[p]? = some (.cells (bM s h E.length place) 170 (0, 0))) (by kernel_rfl) (by kernel_rfl) rfl ?_
      have hS0 : (fun W => W.heap[p]? = some (.cells (bM s h E.length place) 170 (0, 0))) (w2.drew) := mJ.get.2
      have Hy := mJ.drew
      refine iE 0 rfl hS0 rfl (iE 1 rfl hS0 rfl (jF 2 rfl hS0 rfl (gG 3 rfl hS0 61 underlying170 rfl sizeOf3 rfl (je 4 rfl hS0 (fun W hW => jE underlying3 rfl hW (rW hs)) (iE 5 rfl hS0 rfl (iE 7 rfl hS0 rfl (jF 10 rfl hS0 rfl (gG 11 rfl hS0 1 underlying170 rfl sizeOf168 rfl (jQ 6 rfl (wK rfl func179 (oC (k := 0) hs hh (by omega) Hy.get.2)) ?_)))))))))
      rintro _ w3 ⟨rfl, hD2⟩
      have xM := Hy.qI hD2
      have hS3 : (fun W => W.heap[p]? = some (.cells (bM s h E.length place) 170 (0, 0))) w3 := xM.get.2
      refine xU hS3 ?_
      refine jQ 8 rfl (Ky (vs := [s.getD ((h + 0) % 60) undef, .slice a l.length c]) xM underlying54 sizeOf22 zeroValue22 rfl rfl rfl (by decide) (by rw [e0]; simp [Value.oneCell'])) ?_
      rintro _ w4 ⟨b2, rfl, H4⟩
      have hS4 : (fun W => W.heap[p]? = some (.cells (bM s h E.length place) 170 (0, 0))) w4 := H4.swap.get.2
      refine xU hS4 ?_
      refine jQ 9 rfl (wK rfl func128 (uX H4 (fun W HW => HW.right.right.uY (i := 0) hE0) hr.under.under.under (by omega))) ?_
      rintro u w5 H5
      have oM := H5.Dx
      have hS5 : (fun W => W.heap[p]? = some (.cells (bM s h E.length place) 170 (0, 0))) w5 := oM.get.2
      refine xU hS5 ?_
      refine jc 12 rfl hS5 (fun _ => qJ underlying168 sizeOf22 rfl rfl (by omega)) ?_
      refine fH 13 rfl (by kernel_rfl) (dA oM sizeOf22 rfl rfl H5.aT.one (by rw [gV hs]; omega)) ?_
      rintro _ w6 GV
      rw [show (1 + ((h : Int)).toNat * 1) = 1 + h from by omega, qZ hs hh] at GV
      have hs' : (s.set h u).length = 60 := by simp [hs]
      have ho' := FK ho (u := u) (i := h) H5.aT.one
      refine Ba (by kernel_rfl) ?_
      refine pU (aS (aj (ay (ah (aO rfl (bP rfl (bg 63 underlying170 rfl sizeOf3 rfl (aG (dA GV sizeOf3 rfl rfl rfl (by rw [gV hs']; decide)) ?_))))))))
      rintro _ w7 yR
      rw [show (Value.int .i64 0) = .int .i64 ((0 : Nat) : Int) from rfl, gZ hs'] at yR
      have MB := yR.swap.jv
      refine aA (aj (ay (ah (aU rfl (aA (aj (aJ (aI (.inl rfl) results233 rfl ?_))))))))
      refine ⟨rfl, aB.lY hs' hh (by rw [nZ hE0]; omega) (.inr rfl) ?_ ho' ?_⟩
      · intro e he
        rcases List.mem_cons.1 he with rfl | he
        · first | (rw [if_pos hw1, List.length_append]; omega) | (rw [if_neg (by omega), List.length_append]; omega)
        · exact hm e (List.mem_of_mem_tail he)
      · rw [nZ hE0]
        first | rw [if_pos hw1] | rw [if_neg (by omega)]
        exact (MB.r4.swap.Dy (oq (fun I a b => zO hs hh hE hE0 b a) _)).Dx.right.swap
  · (try simp only [aH] at h7)
    try (exfalso; first | contradiction | omega)
    all_goals
      have hw2 : way = 2 := by omega
      refine jU (n := 14) [0, 1, 2, 3, 4, 5, 6, 7, 8, 9, 10, 11, 12, 13] (fun W => W.heap[p]? = some (.cells (bM s h E.length place) 170 (0, 0))) (by kernel_rfl) (by kernel_rfl) rfl ?_
      have hS0 : (fun W => W.heap[p]? = some (.cells (bM s h E.length place) 170 (0, 0))) (w2.drew) := mJ.get.2
      have ZP := mJ.drew
      refine iE 0 rfl hS0 rfl (iE 1 rfl hS0 rfl (jF 2 rfl hS0 rfl (gG 3 rfl hS0 61 underlying170 rfl sizeOf3 rfl (je 4 rfl hS0 (fun W hW => jE underlying3 rfl hW (rW hs)) (iE 5 rfl hS0 rfl (iE 6 rfl hS0 rfl (jF 10 rfl hS0 rfl (gG 11 rfl hS0 1 underlying170 rfl sizeOf168 rfl (jQ 7 rfl (wK rfl func179 (oC (k := 0) hs hh (by omega) ZP.get.2)) ?_)))))))))
      rintro _ w8 ⟨rfl, hD2⟩
      have xM := ZP.qI hD2
      have hS8 : (fun W => W.heap[p]? = some (.cells (bM s h E.length place) 170 (0, 0))) w8 := xM.get.2
      refine xU hS8 ?_
      refine jQ 8 rfl (Ky (vs := [.slice a l.length c, s.getD ((h + 0) % 60) undef]) xM underlying54 sizeOf22 zeroValue22 rfl rfl rfl (by decide) (by rw [e0]; simp [Value.oneCell'])) ?_
      rintro _ w9 ⟨b2, rfl, H9⟩
      have hS9 : (fun W => W.heap[p]? = some (.cells (bM s h E.length place) 170 (0, 0))) w9 := H9.swap.get.2
      refine xU hS9 ?_
      refine jQ 9 rfl (wK rfl func128 (uX H9 hr.under.under.under (fun W HW => HW.right.right.uY (i := 0) hE0) (by omega))) ?_
      rintro u w10 mJ
      have oM := mJ.Dx
      have Vq : (fun W => W.heap[p]? = some (.cells (bM s h E.length place) 170 (0, 0))) w10 := oM.get.2
      refine xU Vq ?_
      refine jc 12 rfl Vq (fun _ => qJ underlying168 sizeOf22 rfl rfl (by omega)) ?_
      refine fH 13 rfl (by kernel_rfl) (dA oM sizeOf22 rfl rfl mJ.aT.one (by rw [gV hs]; omega)) ?_
      rintro _ He GV
      rw [show (1 + ((h : Int)).toNat * 1) = 1 + h from by omega, qZ hs hh] at GV
      have hs' : (s.set h u).length = 60 := by simp [hs]
      have ho' := FK ho (u := u) (i := h) mJ.aT.one
      refine Ba (by kernel_rfl) ?_
      refine pU (aS (aj (ay (ah (aO rfl (bP rfl (bg 63 underlying170 rfl sizeOf3 rfl (aG (dA GV sizeOf3 rfl rfl rfl (by rw [gV hs']; decide)) ?_))))))))
      rintro _ w12 yR
      rw [show (Value.int .i64 0) = .int .i64 ((0 : Nat) : Int) from rfl, gZ hs'] at yR
      have MB := yR.swap.jv
      refine aA (aj (ay (ah (aU rfl (aA (aj (aJ (aI (.inl rfl) results233 rfl ?_))))))))
      refine ⟨rfl, aB.lY hs' hh (by rw [nZ hE0]; omega) (.inr rfl) ?_ ho' ?_⟩
      · intro e he
        rcases List.mem_cons.1 he with rfl | he
        · first | (rw [if_pos hw1, List.length_append]; omega) | (rw [if_neg (by omega), List.length_append]; omega)
        · exact hm e (List.mem_of_mem_tail he)
      · rw [nZ hE0]
        first | rw [if_pos hw1] | rw [if_neg (by omega)]
        exact (MB.r4.swap.Dy (oq (fun I a b => zO hs hh hE hE0 b a) _)).Dx.right.swap
end
end Go.Proofs.YtgndbccogcofjaaGreatDoor
end
section
namespace Go.Proofs.YtgndbccogcofjaaGreatDoor
open Go.RowKit
open _root_.Go.Proofs.Tryz
def y7 (m place : Nat) (n : Int) : Nat := (((place : Int) + n) % (m : Int)).toNat
theorem QB {m place : Nat} {n : Int} (h : 0 < m) : y7 m place n < m := by
  unfold y7
  have h1 := Int.emod_nonneg ((place : Int) + n) (show (m : Int) ≠ 0 by omega)
  have h2 := Int.emod_lt_of_pos ((place : Int) + n) (show (0 : Int) < m by omega)
  omega
theorem FM (a : Int) {m : Int} (h : 0 < m) : -m < a.tmod m ∧ a.tmod m < m := by
  have h2 := Int.tmod_lt_of_pos a h
  have h3 := Int.tmod_lt_of_pos (-a) h
  rw [Int.neg_tmod] at h3
  omega
theorem Eu (a m : Int) : a.tmod m % m = a % m := by
  rw [Int.tmod_def]
  exact Int.sub_mul_emod_self_left a m (a.tdiv m)
theorem Tv (m place : Nat) (n : Int) (h : 0 < m) : (((place : Int) + n.tmod m).tmod m + m).tmod m = (y7 m place n : Int) := by
  have h1 := FM ((place : Int) + n.tmod m) (show (0 : Int) < m by omega)
  have h2 := Int.emod_nonneg ((place : Int) + n) (show (m : Int) ≠ 0 by omega)
  unfold y7
  rw [Int.toNat_of_nonneg h2, Int.tmod_eq_emod_of_nonneg (by omega), Int.add_emod_right, Eu, Int.add_emod, Eu, ← Int.add_emod]
section
variable {w0 w : World} {F : HP} {p place : Nat} {E : List (List Int)} {v : Value} {l : List Int} {way : Int}
theorem DT (H : aB w0 w (bY p E place • F)) (hr : gJ w0 F .i32 v l) :
    fA prog 233 #[.pointer (some ⟨p, 0, none⟩), .int .i64 way, v] w fun v' w' => v' = .int .i64 (uZ E place way l).1 ∧ aB w0 w' (bY p (uZ E place way l).2.1 (uZ E place way l).2.2 • F) := by
  unfold uZ
  by_cases h1 : way < 0 ∨ 2 < way
  · simp only [h1, if_true]; exact DL H hr h1
  · simp only [h1, if_false]
    by_cases h2 : 1024 < l.length
    · simp only [h2, if_true]; exact BN H hr (by omega) h2
    · simp only [h2, if_false]
      by_cases h3 : way ≠ 0 ∧ 0 < E.length
      · rw [if_pos h3]
        by_cases h4 : 1024 < l.length + (E.getD 0 []).length
        · rw [if_pos h4]; exact DR H hr (by omega) (by omega) h3.2 h4
        · rw [if_neg h4]; exact BO H hr (by omega) h3.2 (by omega)
      · rw [if_neg h3]
        by_cases h5 : way = 0 ∧ l.length = 0
        · rw [if_pos h5]; obtain ⟨rfl, h6⟩ := h5; exact yu H hr h6
        · rw [if_neg h5]; exact DN H hr (by omega) (by omega) (by omega) h5
theorem y8 {n : Int} (H : aB w0 w (bY p [] place • F)) :
  fA prog 101 #[.pointer (some ⟨p, 0, none⟩), .int .i64 n] w fun v' w' => v' = .tuple #[.slice none 0 0, .int .i64 6] ∧ aB w0 w' (bY p [] place • F) := by
 obtain ⟨s, h, hs, hh, hE, hp, hm, ho, H1⟩ := H.ring
 have hb := H1.get.2
 refine fU func101 ntmps101 ?_
 dsimp only [aY, Nat.reduceAdd]
 refine ay (ah (aU rfl (aU rfl (aA (aj (ay (bC (ay (ah (aO rfl (bZ rfl func177 (gW _ hb tN) ?_)))))))))))
 rintro _ _ ⟨rfl, rfl⟩
 refine aU rfl (aA (aj (oK (ay (ah (aO rfl (bP rfl (bg 62 underlying170 rfl sizeOf3 rfl (dS underlying3 rfl hb (jf hs) (aW (eX rfl rfl) (aU rfl (aA (aj (aN rfl (fun h1 => ?_) (fun h => by exfalso; (try simp only [aH] at h); first | contradiction | omega | (simp at h <;> omega))))))))))))))))
 (try simp only [aH] at h1)
 refine ay (ah (aU rfl (aU rfl (aA (aj (aJ (aV (aK (kX (.inl rfl) results101 rfl rfl ?_)))))))))
 exact ⟨rfl, H⟩
theorem Af {n : Int} (H : aB w0 w (bY p E place • F)) (h0 : 0 < E.length) :
  fA prog 101 #[.pointer (some ⟨p, 0, none⟩), .int .i64 n] w fun v' w' => ∃ u, v' = .tuple #[u, .int .i64 0] ∧
   aB w0 w' (iL 21 .i32 u (E.getD (y7 E.length place n) []) • bY p E (y7 E.length place n) • F) := by
 obtain ⟨s, h, hs, hh, hE, hp, hm, ho, H⟩ := H.ring
 have hb := H.get.2
 have hlt := QB (place := place) (n := n) h0
 have XL := Tv E.length place n h0
 have hb1 := FM n (show (0 : Int) < E.length by omega)
 have hb2 := FM ((place : Int) + n.tmod E.length) (show (0 : Int) < E.length by omega)
 refine fU func101 ntmps101 ?_
 dsimp only [aY, Nat.reduceAdd]
 refine ay (ah (aU rfl (aU rfl (aA (aj (ay (bC (ay (ah (aO rfl (bZ rfl func177 (gW _ hb tN) ?_)))))))))))
 rintro _ _ ⟨rfl, rfl⟩
 refine aU rfl (aA (aj (oK (ay (ah (aO rfl (bP rfl (bg 62 underlying170 rfl sizeOf3 rfl (dS underlying3 rfl hb (jf hs) (aW (eX rfl rfl) (aU rfl (aA (aj (aN rfl (fun h => by exfalso; (try simp only [aH] at h); first | contradiction | omega | (simp at h <;> omega)) (fun h1 => ?_)))))))))))))))
 (try simp only [aH] at h1)
 refine aP (aS (aj (ay ?_)))
 refine jU (n := 30) [0, 1, 2, 3, 4, 5, 6, 7, 8, 9, 10, 11, 12, 13, 14, 15, 16, 17, 18, 19, 20, 21, 22, 23, 24, 25, 26, 27, 28, 29] (fun W => W.heap = w.heap) (by kernel_rfl) (by kernel_rfl) rfl ?_
 have hS0 : (fun W => W.heap = w.heap) (w.drew) := rfl
 have W9 := H.drew
 refine iE 0 rfl hS0 rfl (iE 1 rfl hS0 rfl (jF 2 rfl hS0 rfl (gG 3 rfl hS0 63 underlying170 rfl sizeOf3 rfl ?_)))
 refine je 4 rfl hS0 (fun W hW => jE underlying3 rfl (by rw [hW]; exact hb) (BM hs)) ?_
 refine iE 5 rfl hS0 rfl (iE 6 rfl hS0 rfl (jF 7 rfl hS0 rfl (gG 8 rfl hS0 62 underlying170 rfl sizeOf3 rfl ?_)))
 refine je 9 rfl hS0 (fun W hW => jE underlying3 rfl (by rw [hW]; exact hb) (jf hs)) ?_
 refine jc 10 rfl hS0 (fun _ => Jb rfl rfl (by omega)) (jc 11 rfl hS0 (fun _ => fP rfl rfl (by omega)) (iE 12 rfl hS0 rfl (jF 13 rfl hS0 rfl (gG 14 rfl hS0 62 underlying170 rfl sizeOf3 rfl ?_))))
 refine je 15 rfl hS0 (fun W hW => jE underlying3 rfl (by rw [hW]; exact hb) (jf hs)) ?_
 refine jc 16 rfl hS0 (fun _ => Jb rfl rfl (by omega)) (iE 17 rfl hS0 rfl (jF 18 rfl hS0 rfl (gG 19 rfl hS0 62 underlying170 rfl sizeOf3 rfl ?_)))
 refine je 20 rfl hS0 (fun W hW => jE underlying3 rfl (by rw [hW]; exact hb) (jf hs)) ?_
 refine jc 21 rfl hS0 (fun _ => fP rfl rfl (by omega)) (iE 22 rfl hS0 rfl (jF 23 rfl hS0 rfl (gG 24 rfl hS0 62 underlying170 rfl sizeOf3 rfl ?_)))
 refine je 25 rfl hS0 (fun W hW => jE underlying3 rfl (by rw [hW]; exact hb) (jf hs)) ?_
 refine jc 26 rfl hS0 (fun _ => Jb rfl rfl (by omega)) (jF 27 rfl hS0 rfl (gG 28 rfl hS0 63 underlying170 rfl sizeOf3 rfl ?_))
 refine fH 29 rfl (by kernel_rfl) (dA W9 sizeOf3 rfl rfl rfl (by rw [gV hs]; decide)) ?_
 rintro _ w2 H2
 rw [XL, gZ hs] at H2
 refine Ba (by kernel_rfl) ?_
 refine pU (aj (ay (ah (aO rfl (aO rfl (bP rfl (bg 63 underlying170 rfl sizeOf3 rfl (dS underlying3 rfl H2.get.2 (BM hs) (bZ rfl func179 (oC hs hh (by omega) H2.get.2) ?_)))))))))
 rintro _ w3 ⟨rfl, hD2⟩
 have H3 := H2.qI hD2
 refine Ja (wW (yV rfl func178 rfl rfl) (lG H3 (fun W HW => HW.right.uY (i := y7 E.length place n) hlt) (by have := hm (E.getD (y7 E.length place n) []) (by rw [List.getD_eq_getElem?_getD, List.getElem?_eq_getElem hlt]; simp); omega))) (oJ rfl) ?_
 rintro u w4 H4
 refine aU rfl (aU rfl (aA (aj (aJ (kX (.inl rfl) results101 rfl rfl ?_)))))
 exact ⟨u, rfl, (aB.lY hs hh hE (.inl hlt) hm ho H4.d3).swap⟩
theorem BP (H : aB w0 w (bY p [] place • F)) :
  fA prog 205 #[.pointer (some ⟨p, 0, none⟩)] w fun v' w' => v' = .tuple #[.slice none 0 0, .int .i64 6] ∧ aB w0 w' (bY p [] place • F) := by
 refine fU func205 ntmps205 ?_
 dsimp only [aY, Nat.reduceAdd]
 refine ay (ah (aU rfl (aU rfl (aA (aj (ay (ah (aO rfl (bZ rfl func101 (y8 H) ?_)))))))))
 rintro _ w1 ⟨rfl, H1⟩
 refine Ar rfl rfl (Ar rfl rfl (aU rfl (aU rfl (aA (aj (aJ (kX (.inl rfl) results205 rfl rfl ?_)))))))
 exact ⟨rfl, H1⟩
theorem MJ {m place : Nat} (h : place < m) : y7 m place 0 = place := by
  unfold y7
  rw [Int.add_zero, Int.emod_eq_of_lt (by omega) (by omega)]
  omega
theorem DU (H : aB w0 w (bY p E place • F)) (h0 : 0 < E.length) :
  fA prog 205 #[.pointer (some ⟨p, 0, none⟩)] w fun v' w' => ∃ u, v' = .tuple #[u, .int .i64 0] ∧
   aB w0 w' (iL 21 .i32 u (E.getD place []) • bY p E place • F) := by
 obtain ⟨s, h, hs, hh, hE, hp, hm, ho, H1⟩ := H.ring
 have hpl : y7 E.length place 0 = place := MJ (by omega)
 refine fU func205 ntmps205 ?_
 dsimp only [aY, Nat.reduceAdd]
 refine ay (ah (aU rfl (aU rfl (aA (aj (ay (ah (aO rfl (bZ rfl func101 (Af H h0) ?_)))))))))
 rintro _ w1 ⟨u, rfl, H1⟩
 refine Ar rfl rfl (Ar rfl rfl (aU rfl (aU rfl (aA (aj (aJ (kX (.inl rfl) results205 rfl rfl ?_)))))))
 rw [hpl] at H1; exact ⟨u, rfl, H1⟩
theorem aB.MK {s : List Value} {h : Nat} (H : aB w0 w (tV s h E • F)) : aB w0 w (tV s h E • tV s h E • F) := H.AP
theorem ML {s : List Value} {h n p : Nat} (ho : ∀ v ∈ s, v.oneCell' = true) : ∀ v ∈ (bM s h n p).toList, v.oneCell' = true := by
  intro v hv
  simp [bM] at hv
  rcases hv with rfl | hv | rfl | rfl | rfl <;> first | rfl | exact ho v hv
theorem BQ (H : aB w0 w (bY p E place • F)) :
  fA prog 99 #[.pointer (some ⟨p, 0, none⟩)] w fun v' w' => ∃ q, v' = .pointer (some ⟨q, 0, none⟩) ∧ aB w0 w' (bY q E place • bY p E place • F) := by
 obtain ⟨s, h, hs, hh, hE, hp, hm, ho, H⟩ := H.ring
 have hb := H.get.2
 refine fU func99 ntmps99 ?_
 dsimp only [aY, Nat.reduceAdd]
 refine ay (ah (aU rfl (aA (aj (ay (ay (ah (aO rfl (bZ rfl func177 (gW _ hb tN) ?_)))))))))
 rintro _ _ ⟨rfl, rfl⟩
 refine aA (aj (oK (aP (aj (ay (ah (aO rfl (bP rfl (aW (bW underlying170 rfl sizeOf170 (gV hs) rfl hb) (ji (qK H zeroValue170) ?_))))))))))
 rintro _ w2 ⟨b2, rfl, H2⟩
 refine aG (dh H2 sizeOf170 (gV hs) rfl rfl rfl (ML ho)) ?_
 rintro _ w3 H3
 refine aA (aj (ay (ah (aU rfl (aA (aj (aJ (aI (.inl rfl) results99 rfl ?_))))))))
 exact ⟨_, rfl, aB.lY hs hh hE hp hm ho (aB.lY hs hh hE hp hm ho (H3.Dx.MK.r4)).swap.Dx⟩
end
end Go.Proofs.YtgndbccogcofjaaGreatDoor
end
section
namespace Go.Proofs.YtgndbccogcofjaaGreatDoor
open Go.RowKit
open _root_.Go.Proofs.Tryz
section
variable {w0 w : World} {F : HP} {p place : Nat} {E : List (List Int)}
theorem Jq (H : aB w0 w (bY p E place • F)) : E.length ≤ 60 ∧ (place < E.length ∨ place = 0) ∧ ∀ e ∈ E, e.length ≤ 1024 := by
  obtain ⟨s, h, hs, hh, hE, hpl, hE2, hs1, H1⟩ := H.ring
  exact ⟨hE, hpl, hE2⟩
theorem DV (H : aB w0 w (bY p E place • F)) : fA prog 205 #[.pointer (some ⟨p, 0, none⟩)] w fun v w' => ∃ u, v = .tuple #[u, .int .i64 (if E.length = 0 then 6 else 0)] ∧ aB w0 w' (iL 21 .i32 u (E.getD place []) • bY p E place • F) := by
  by_cases h0 : E.length = 0
  · obtain rfl := List.eq_nil_of_length_eq_zero h0
    exact (BP H).mono fun v w' h => ⟨_, h.1, h.2.jd none⟩
  · rw [if_neg h0]
    exact (DU H (by omega)).mono fun v w' h => h
end
end Go.Proofs.YtgndbccogcofjaaGreatDoor
end
section
namespace Go.Proofs.YtgndbccogcofjaaGreatDoor
open Go.RowKit
def uG (I : Hp) (k : IntKind) (vs : List Value) (ls : List (List Int)) : Prop := vs.length = ls.length ∧ ∀ j, j < ls.length → wC I k (vs.getD j undef) (ls.getD j [])
def Vr (k : IntKind) (vs : List Value) (ls : List (List Int)) : HP := know (fun I => uG I k vs ls) fun _ _ hl h => ⟨h.1, fun j hj => (h.2 j hj).mono hl⟩
def LL (e : TypeId) (k : IntKind) (v : Value) (ls : List (List Int)) : HP := qW fun vs => Row e 1 v ls.length vs • Vr k vs ls
theorem og {α : Type _} {l m : List α} {j : Nat} {d : α} (h : j < l.length) : (l ++ m).getD j d = l.getD j d := by simp [List.getD_eq_getElem?_getD, List.getElem?_append_left h]
theorem lZ {α : Type _} {l m : List α} {j : Nat} {d : α} (h : l.length ≤ j) : (l ++ m).getD j d = m.getD (j - l.length) d := by simp [List.getD_eq_getElem?_getD, List.getElem?_append_right h]
theorem Ew {α : Type _} {l : List α} {i j : Nat} {d : α} : (l.drop i).getD j d = l.getD (i + j) d := by simp [List.getD_eq_getElem?_getD]
theorem y9 {α : Type _} {l : List α} {i j : Nat} {d : α} (h : j < i) : (l.take i).getD j d = l.getD j d := by simp [List.getD_eq_getElem?_getD, List.getElem?_take, h]
theorem rX {α : Type _} {l : List α} {j : Nat} {d : α} (h : j < l.length) : l.getD j d ∈ l := by rw [List.getD_eq_getElem?_getD, List.getElem?_eq_getElem h]; exact List.getElem_mem h
theorem uG.app {I : Hp} {k : IntKind} {vs us : List Value} {ls ms : List (List Int)} (h : uG I k vs ls) (g : uG I k us ms) : uG I k (vs ++ us) (ls ++ ms) := by
  refine ⟨by simp [h.1, g.1], fun j hj => ?_⟩
  by_cases hl : j < ls.length
  · rw [og (by rw [h.1]; exact hl), og hl]; exact h.2 j hl
  · have hj' : j - ls.length < ms.length := by simp at hj; omega
    rw [lZ (by rw [h.1]; omega), lZ (by omega), h.1]; exact g.2 _ hj'
theorem uG.drop {I : Hp} {k : IntKind} {vs : List Value} {ls : List (List Int)} (h : uG I k vs ls) (i : Nat) : uG I k (vs.drop i) (ls.drop i) := by
  refine ⟨by simp [h.1], fun j hj => ?_⟩
  rw [Ew, Ew]
  exact h.2 _ (by simp at hj; omega)
theorem uG.take {I : Hp} {k : IntKind} {vs : List Value} {ls : List (List Int)} (h : uG I k vs ls) (i : Nat) : uG I k (vs.take i) (ls.take i) := by
  refine ⟨by simp [h.1], fun j hj => ?_⟩
  simp at hj
  rw [y9 (by omega), y9 (by omega)]
  exact h.2 _ (by omega)
theorem wC.one {I : Hp} {k : IntKind} {v : Value} {l : List Int} (h : wC I k v l) : uG I k [v] [l] := ⟨rfl, fun j hj => by
  obtain rfl : j = 0 := by simp at hj; omega
  exact h⟩
theorem wC.Ol {I : Hp} {k : IntKind} {v : Value} {l : List Int} (h : wC I k v l) : v.oneCell' = true := by obtain ⟨a, c, rfl, _⟩ := h; rfl
section
variable {w0 w : World} {F : HP} {e : TypeId} {k : IntKind} {v : Value} {vs us : List Value} {ls ms : List (List Int)} {l : List Int}
theorem Rd.Vs {n : Nat} {xs : List Value} (hr : Rd w 1 v n xs) {i : Nat} (h : i ≤ n) : Rd w 1 (lT 1 0 i v) i (xs.take i) := by
  have h1 := hr.cut (Nat.zero_le i) h
  simpa using h1
end
end Go.Proofs.YtgndbccogcofjaaGreatDoor
end
section
namespace Go.Proofs.YtgndbccogcofjaaGreatDoor
open Go.RowKit
theorem Om {α : Type _} {enc : α → List Value} {sz : Nat} (he : ∀ a, (enc a).length = sz) (l : List α) : (l.flatMap enc).length = l.length * sz := by
  induction l with
  | nil => simp
  | cons a l ih => simp [he, ih, Nat.add_mul, Nat.add_comm]
theorem nO {α : Type _} {enc : α → List Value} {sz : Nat} (he : ∀ a, (enc a).length = sz) {l : List α} {k : Nat} (hk : k < l.length) (d : α) : ((l.flatMap enc).drop (k * sz)).take sz = enc (l.getD k d) := by
  have h1 : l = l.take k ++ l.getD k d :: l.drop (k + 1) := by
    rw [List.getD_eq_getElem?_getD, List.getElem?_eq_getElem hk]
    simp
  have h2 : ((l.take k).flatMap enc).length = k * sz := by rw [Om he, List.length_take, Nat.min_eq_left (by omega)]
  conv => lhs; rw [h1]
  rw [List.flatMap_append, List.drop_append, h2]
  simp [h2, List.take_append, he]
theorem jW {P : Program} {L : List (Nat × Value)} {w : World} {ty : TypeId} {x : Operand} {t : TypeId} {d : TypeDesc} {b o n c sz n' k : Nat} {xs ys : List Value} (hr : Rd w sz (.slice (some ⟨b, o, none⟩) n c) n' xs) (hk : k < n') (hu : P.underlying t = some d) (hd : E5 d = true) (hs : ∀ w, (sizeOf t).run P w = .ok sz w)
    (hx : ev L x = some (.pointer (some ⟨b, o + (k : Int).toNat * sz, none⟩))) (hy : (xs.drop (k * sz)).take sz = ys) (hl : ys.length = sz) : Val P L (.load t x) ty w (.agg ys.toArray) w :=
  tu (by rw [hu]; rfl) (Ef hu hd) hs hl hx (fun j u hj => by
    have hjl : j < sz := by rw [← hl]; exact (List.getElem?_eq_some_iff.1 hj).1
    rw [hr.atS hk hjl, List.getD_eq_getElem?_getD]
    rw [← hy, List.getElem?_take, if_pos hjl, List.getElem?_drop] at hj
    rw [hj]; rfl)
end Go.Proofs.YtgndbccogcofjaaGreatDoor
end
section
namespace Go.Proofs.YtgndbccogcofjaaGreatDoor
open Go.RowKit
open _root_.Go.Proofs.Tryz
section
variable {w0 w : World} {F : HP} {v d s z d2 z2 u1 u2 u3 : Value} {L dl il UD Vt l1 l2 l3 : List Int} {a a2 : Int}
def XM (L : List Int) (a : Int) (dl : List Int) : Bool := decide (0 ≤ a ∧ a + dl.length ≤ L.length) && ((L.drop a.toNat).take dl.length == dl)
def uE (L : List Int) (a : Int) (dl il : List Int) : Int := if XM L a dl then (if 1024 < (L.length : Int) - dl.length + il.length then 3 else 0) else 1
def uL (L : List Int) (a : Int) (dl il : List Int) : List Int := if uE L a dl il = 0 then L.take a.toNat ++ il ++ L.drop (a.toNat + dl.length) else []
abbrev Vu (a : Int) (d z : Value) : Value := .agg #[.int .i64 a, d, z]
theorem oZ (H : aB w0 w F) (hd : gJ w0 F .i32 d dl) (hi : gJ w0 F .i32 z il) (b2 : dl.length ≤ 35184372087808) (b3 : il.length ≤ 35184372087808) :
  fA prog 220 #[Vu a d z] w fun v' w' => ∃ d' s', v' = Vu a d' s' ∧ aB w0 w' (iL 21 .i32 d' dl • iL 21 .i32 s' il • F) := by
 refine fU func220 ntmps220 ?_
 dsimp only [aY, Nat.reduceAdd]
 refine ay (ah (ji (iG (l := [_, _, _]) H rfl rfl) ?_))
 rintro _ w1 ⟨b1, rfl, H1⟩
 refine ji (fV (l := [_, _, _]) H1 zeroValue101 rfl) ?_
 rintro _ w2 ⟨b2, rfl, H2⟩
 refine aA (aj (ay ?_))
 have Oo := H2.drew
 have rY := aB.kp (Oo.f2.f2)
 refine yQ [1, 3, 6] rY rfl (gG 0 rfl rY 0 underlying101 rfl sizeOf3 rfl (je 1 rfl rY (fun W hW => jE underlying3 rfl ((Kp.h hW).f2).get.2 rfl) (gG 2 rfl rY 1 underlying101 rfl sizeOf22 rfl (je 3 rfl rY (fun W hW => jE underlying22 rfl ((Kp.h hW).f2).get.2 rfl) (gG 5 rfl rY 2 underlying101 rfl sizeOf22 rfl (je 6 rfl rY (fun W hW => jE underlying22 rfl ((Kp.h hW).f2).get.2 rfl) (jQ 4 rfl (wK rfl func178 (lG Oo (fun W HW => hd _ (HW.right.right)) (by omega))) ?_)))))))
 rintro u3 w3 H3
 have DW := aB.kp (H3.f3.f3.f3)
 refine dP DW (fun W hW => (Kp.h hW).right.f2.f2) ?_
 refine jQ 7 rfl (wK rfl func178 (lG H3 (fun W HW => hi _ (HW.right.right.right)) (by omega))) ?_
 rintro u4 w4 H4
 have wG := aB.kp (H4.f4.f4.f4.f4)
 refine dP wG (fun W hW => (Kp.h hW).right.f3.f3.f3) ?_
 obtain ⟨au3, cu3, XO, -⟩ := jR.open ((H4.f2).aT)
 subst XO
 obtain ⟨au4, cu4, eu4, -⟩ := jR.open ((H4).aT)
 subst eu4
 refine jc 8 rfl wG (fun _ => dW (pl := #[(0, 1), (1, 1), (2, 1)]) (#[_, _, _]) underlying101 zeroValue101 (fun w => by kernel_rfl) rfl (rfl)) ?_
 refine fH 9 rfl (by kernel_rfl) (cZ 0 (l' := [_, _, _]) (us := [_, _, _]) H4.f3 sizeOf101 rfl rfl rfl (aC (by first | rfl | assumption) (aC (by first | rfl | exact Rd.one ((H4.f2).aT)) (aC (by first | rfl | exact Rd.one ((H4).aT)) bU))) rfl rfl) ?_
 rintro _ w7 H7
 have zf := aB.kp (H7.f4.f4.f4.f4)
 refine fF zf (by kernel_rfl) ?_
 refine pU (aj (aJ ?_))
 refine sZ (.inl rfl) (NV results220 rfl underlying101 rfl (by rw [show (prog.info? 101).map (·.size) = some 3 from by kernel_rfl]; rfl) (H7).get.2) ?_
 exact ⟨_, _, rfl, H7.right.f3.right.f2⟩
theorem zh (H : aB w0 w F) (hd : gJ w0 F .i32 d dl) (hi : gJ w0 F .i32 z il) (b2 : dl.length ≤ 35184372087808) (b3 : il.length ≤ 35184372087808) :
  fA prog 241 #[Vu a d z] w fun v' w' => ∃ d' s', v' = Vu a d' s' ∧ aB w0 w' (iL 21 .i32 d' il • iL 21 .i32 s' dl • F) := by
 refine fU func241 ntmps241 ?_
 dsimp only [aY, Nat.reduceAdd]
 refine ay (ah (ji (iG (l := [_, _, _]) H rfl rfl) ?_))
 rintro _ w1 ⟨b1, rfl, H1⟩
 refine ji (fV (l := [_, _, _]) H1 zeroValue101 rfl) ?_
 rintro _ w2 ⟨b2, rfl, H2⟩
 refine aA (aj (ay (ah (bg 0 underlying101 rfl sizeOf3 rfl (dS underlying3 rfl (H2.f2).get.2 rfl (bg 2 underlying101 rfl sizeOf22 rfl (dS underlying22 rfl (H2.f2).get.2 rfl (bg 1 underlying101 rfl sizeOf22 rfl (dS underlying22 rfl (H2.f2).get.2 rfl ?_)))))))))
 obtain ⟨az, cz, ez, -⟩ := jR.open (hi _ (H2.right.right))
 subst ez
 obtain ⟨ad, cd, ed, -⟩ := jR.open (hd _ (H2.right.right))
 subst ed
 refine aW (dW (pl := #[(0, 1), (1, 1), (2, 1)]) (#[_, _, _]) underlying101 zeroValue101 (fun w => by kernel_rfl) rfl (rfl)) (bZ rfl func220 (oZ H2 (fun W HW => hi _ (HW.right.right)) (fun W HW => hd _ (HW.right.right)) (by omega) (by omega)) ?_)
 rintro _ w5 ⟨d5, s5, rfl, H5⟩
 refine aG (cZ 0 (l' := [_, _, _]) (us := [_, _, _]) H5.f3 sizeOf101 rfl rfl rfl (aC (by first | rfl | assumption) (aC (by first | rfl | exact Rd.one ((H5).aT)) (aC (by first | rfl | exact Rd.one ((H5.f2).aT)) bU))) rfl rfl) ?_
 rintro _ w6 H6
 refine aA (aj (aJ ?_))
 refine sZ (.inl rfl) (NV results241 rfl underlying101 rfl (by rw [show (prog.info? 101).map (·.size) = some 3 from by kernel_rfl]; rfl) (H6).get.2) ?_
 exact ⟨_, _, rfl, H6.right.f3.right.f2.f2⟩
end
end Go.Proofs.YtgndbccogcofjaaGreatDoor
end
section
namespace Go.Proofs.YtgndbccogcofjaaGreatDoor
open Go.RowKit
section
variable {w0 w : World} {F : HP} {v d s z d2 z2 u1 u2 u3 : Value} {L dl il UD Vt l1 l2 l3 : List Int} {a a2 : Int}
def jK (a a2 : Int) (dl il UD Vt : List Int) : Nat := if UD.length = 0 ∧ a2 = a + il.length then 1 else if il.length = 0 ∧ Vt.length = 0 ∧ a = a2 + UD.length then 2 else 0
def jA (k : Nat) (a a2 : Int) : Int := if k = 1 then a else if k = 2 then a2 else 0
def jD (k : Nat) (dl UD : List Int) : List Int := if k = 1 then dl else if k = 2 then UD ++ dl else []
def jI (k : Nat) (il Vt : List Int) : List Int := if k = 1 then il ++ Vt else []
end
end Go.Proofs.YtgndbccogcofjaaGreatDoor
end
