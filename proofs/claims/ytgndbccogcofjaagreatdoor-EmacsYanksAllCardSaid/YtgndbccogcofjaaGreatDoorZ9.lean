import Derived.Test.YtgndbccogcofjaaGreatDoorZ2
import Derived.Test.YtgndbccogcofjaaGreatDoorZ7
import Derived.Test.YtgndbccogcofjaaGreatDoorZ4
import Derived.Test.YtgndbccogcofjaaGreatDoorZ3
set_option linter.unusedSimpArgs false
set_option linter.unusedVariables false
/- Texts of mine, joined, their names in short: Ring Ring2 Ring3 RingAny LL Flat. -/
section
namespace Go.Proofs.YtgndbccogcofjaaGreatDoor
open Go.RowKit
open _root_.Go.Proofs.Tryz
def bM (s : List Value) (h n p : Nat) : Array Value := (Value.bool true :: (s ++ [.int .i64 h, .int .i64 n, .int .i64 p])).toArray
section
variable {s : List Value} {h n p : Nat}
theorem iq (hs : s.length = 60) : (bM s h n p).size = 64 := by simp [bM, hs]
theorem uh : (bM s h n p)[0]? = some (.bool true) := by simp [bM]
theorem EL (hs : s.length = 60) {i : Nat} (hi : i < 60) : (bM s h n p)[1 + i]? = some (s.getD i undef) := by
  simp [bM, Nat.add_comm 1 i, List.getElem?_append_left (show i < s.length by omega), List.getD_eq_getElem?_getD, show i < s.length by omega]
theorem sG (hs : s.length = 60) : (bM s h n p)[61]? = some (.int .i64 h) := by simp [bM, hs]
theorem jv (hs : s.length = 60) : (bM s h n p)[62]? = some (.int .i64 n) := by simp [bM, hs]
theorem CB (hs : s.length = 60) : (bM s h n p)[63]? = some (.int .i64 p) := by simp [bM, hs]
theorem D7 (hs : s.length = 60) (x : Nat) : (bM s h n p).setIfInBounds 61 (.int .i64 x) = bM s x n p := by
  apply Array.ext'; simp [bM, List.set_append, hs]
theorem D8 (hs : s.length = 60) (x : Nat) : (bM s h n p).setIfInBounds 62 (.int .i64 x) = bM s h x p := by
  apply Array.ext'; simp [bM, List.set_append, hs]
theorem iD (hs : s.length = 60) (x : Nat) : (bM s h n p).setIfInBounds 63 (.int .i64 x) = bM s h n x := by
  apply Array.ext'; simp [bM, List.set_append, hs]
theorem rG (hs : s.length = 60) {i : Nat} (hi : i < 60) (v : Value) : (bM s h n p).setIfInBounds (1 + i) v = bM (s.set i v) h n p := by
  apply Array.ext'; simp [bM, Nat.add_comm 1 i, List.set_append, hs, hi]
end
def Ii (I : Hp) (s : List Value) (h : Nat) (E : List (List Int)) : Prop := ∀ i, i < E.length → wO I .i32 (s.getD ((h + i) % 60) undef) (E.getD i [])
def uj (s : List Value) (h : Nat) (E : List (List Int)) : HP := know (fun I => Ii I s h E) fun _ _ hl hk i hi => (hk i hi).mono hl
def bY (p : Nat) (E : List (List Int)) (place : Nat) : HP := rD fun (x : List Value × Nat) =>
  fact (x.1.length = 60 ∧ x.2 < 60 ∧ E.length ≤ 60 ∧ (place < E.length ∨ place = 0) ∧ (∀ e ∈ E, e.length ≤ 1024) ∧ ∀ v ∈ x.1, v.oneCell' = true) • dB p (.cells (bM x.1 x.2 E.length place) 170 (0, 0)) • uj x.1 x.2 E
section
variable {w0 w : World} {F : HP} {p place : Nat} {E : List (List Int)}
theorem aB.ring (H : aB w0 w (bY p E place • F)) : ∃ s h, s.length = 60 ∧ h < 60 ∧ E.length ≤ 60 ∧ (place < E.length ∨ place = 0) ∧ (∀ e ∈ E, e.length ≤ 1024) ∧ (∀ v ∈ s, v.oneCell' = true) ∧ aB w0 w (dB p (.cells (bM s h E.length place) 170 (0, 0)) • uj s h E • F) := by
  obtain ⟨⟨s, h⟩, H⟩ := H.lK
  obtain ⟨⟨h1, h2, h3, h4, h5, h6⟩, H⟩ := H.flat.fact
  exact ⟨s, h, h1, h2, h3, h4, h5, h6, H.flat⟩
theorem aB.mJ {s : List Value} {h : Nat} (h1 : s.length = 60) (h2 : h < 60) (h3 : E.length ≤ 60) (h4 : place < E.length ∨ place = 0) (h5 : ∀ e ∈ E, e.length ≤ 1024) (h6 : ∀ v ∈ s, v.oneCell' = true) (H : aB w0 w (dB p (.cells (bM s h E.length place) 170 (0, 0)) • uj s h E • F)) : aB w0 w (bY p E place • F) :=
  aB.gY (s, h) (aB.deep (aB.jF ⟨h1, h2, h3, h4, h5, h6⟩ H.deep))
theorem F5 (H : aB w0 w F) : fO prog 109 #[] w fun v w' => ∃ p, v = .pointer (some ⟨p, 0, none⟩) ∧ aB w0 w' (bY p [] 0 • F) := by
 refine gB func109 ntmps109 ?_
 dsimp only [bf, Nat.reduceAdd]
 refine ay (ah (aV rfl (aA (aj (ay (ah (aX (eF (pl := #[(0, 1), (1, 60), (61, 1), (62, 1), (63, 1)]) (bM (List.replicate 60 (.slice none 0 0)) 0 0 0) underlying170 zeroValue170 (fun w => by kernel_rfl) rfl (by kernel_rfl)) (jh (KJ H rfl) ?_))))))))
 rintro _ w1 ⟨b1, rfl, H1⟩
 refine aV rfl (aA (aj (aJ (aI (.inl rfl) results109 rfl ?_))))
 refine ⟨b1, rfl, aB.mJ (s := List.replicate 60 (.slice none 0 0)) (h := 0) (by simp) (by omega) (by simp) (.inr rfl) (by simp) (by intro v hv; rw [List.eq_of_mem_replicate hv]; rfl) ?_⟩
 exact aB.swap (aB.FH (fun I i hi => by simp at hi) H1)
theorem iy (t : TypeId) {cs : Array Value} {fr : Nat × Nat} {m : Bool} (hb : w.heap[p]? = some (.cells cs t fr)) (h0 : cs[0]? = some (.bool m)) :
  fO prog 177 #[.pointer (some ⟨p, 0, none⟩)] w fun v w' => v = .bool (!m) ∧ w = w' := by
 refine gB func177 ntmps177 ?_
 dsimp only [bf, Nat.reduceAdd]
 refine ay (ah (aV rfl (aA (aj (ay (ah (aN rfl (aX (fA underlying28 rfl rfl) (fK rfl (fun h => by exfalso; (try simp only [aH] at h); simp at h) (fun h1 => ?_))))))))))
 (try simp only [aH] at h1)
 refine aZ (aN rfl (aZ (bP rfl (aZ (bF 0 underlying170 rfl sizeOf4 rfl (aZ (dV underlying4 rfl hb h0 (aZ (aX (kF rfl) (eG rfl rfl (aV rfl (aA (aj (aJ (aI (.inl rfl) results177 rfl ?_)))))))))))))))
 exact ⟨rfl, rfl⟩
theorem aB.vM {s : List Value} {h i : Nat} (H : aB w0 w (uj s h E • F)) (hi : i < E.length) : kD w .i32 (s.getD ((h + i) % 60) undef) (E.getD i []) := let ⟨I, k, hI⟩ := H.tH; (k i hi).rd hI
theorem oO {s : List Value} {h n m : Nat} {t : TypeId} {fr : Nat × Nat} {k : Nat} (hs : s.length = 60) (hh : h < 60) (hk : k < 60) (hb : w.heap[p]? = some (.cells (bM s h n m) t fr)) :
  fO prog 179 #[.pointer (some ⟨p, 0, none⟩), .int .i64 k] w fun v w' => v = s.getD ((h + k) % 60) undef ∧ qF w w' := by
 refine gB func179 ntmps179 ?_
 dsimp only [bf, Nat.reduceAdd]
 refine ay (ah (aV rfl (aA (aj (ay ?_)))))
 refine jT (n := 13) [0, 1, 2, 3, 4, 5, 6, 7, 8, 9, 10, 11, 12] (fun W => W.heap = w.heap) (by kernel_rfl) (by kernel_rfl) rfl ?_
 have hS0 : (fun W => W.heap = w.heap) (w.drew) := rfl
 refine iF 0 rfl hS0 rfl (iF 1 rfl hS0 rfl (jQ 2 rfl hS0 rfl (gV 3 rfl hS0 61 underlying170 rfl sizeOf3 rfl ?_)))
 refine jk 4 rfl hS0 (fun W hW => jP underlying3 rfl (by rw [hW]; exact hb) (sG hs)) ?_
 refine iF 5 rfl hS0 rfl (jg 6 rfl hS0 (fun _ => gy rfl rfl (by omega)) ?_)
 refine jg 7 rfl hS0 (fun _ => zO rfl rfl (by omega) (by  omega)) ?_
 refine jQ 8 rfl hS0 rfl (gV 9 rfl hS0 1 underlying170 rfl sizeOf168 rfl (jg 10 rfl hS0 (fun _ => qO underlying168 sizeOf22 rfl rfl (by omega)) ?_))
 refine jk 11 rfl hS0 (fun W hW => jP underlying22 rfl (by rw [hW]; exact hb) (by rw [show (1 + (((h : Int) + (k : Int)) % 60).toNat * 1) = 1 + (h + k) % 60 from by omega]; exact EL hs (by omega))) ?_
 refine jg 12 rfl hS0 (fun _ => gG rfl) (pO (aj (aJ (aI (.inl rfl) results179 rfl ?_))))
 exact ⟨rfl, ⟨1, rfl⟩⟩
theorem F6 {s : List Value} {u : Value} {i : Nat} (h : ∀ v ∈ s, v.oneCell' = true) (hu : u.oneCell' = true) : ∀ v ∈ s.set i u, v.oneCell' = true := by
  intro v hv
  rcases List.mem_or_eq_of_mem_set hv with hv | rfl
  · exact h v hv
  · exact hu
theorem JD {I : Hp} {s : List Value} {h : Nat} {l : List Int} {v : Value} (hs : s.length = 60) (hh : h < 60) (hE : E.length ≤ 60) (hS : Ii I s h E) (hv : wO I .i32 v l) :
    Ii I (s.set ((h + 59) % 60) v) ((h + 59) % 60) ((l :: E).take 60) := by
  intro i hi
  have aaw : i < 60 ∧ i < E.length + 1 := by simp at hi; omega
  rw [List.getD_eq_getElem?_getD (l := (l :: E).take 60), List.getElem?_take, if_pos (by omega)]
  cases i with
  | zero =>
    have e : ((h + 59) % 60 + 0) % 60 = (h + 59) % 60 := by omega
    rw [e, List.getD_eq_getElem?_getD, List.getElem?_set_self (by omega)]
    exact hv
  | succ i =>
    have e : ((h + 59) % 60 + (i + 1)) % 60 = (h + i) % 60 := by omega
    have hne : ¬ (h + 59) % 60 = (h + i) % 60 := by omega
    rw [e, List.getD_eq_getElem?_getD, List.getElem?_set_ne hne, ← List.getD_eq_getElem?_getD]
    have := hS i (by omega)
    simpa [List.getD_eq_getElem?_getD] using this
theorem oG {v : Value} {l : List Int} (H : aB w0 w (bY p E place • F)) (hr : gW w0 F .i32 v l) (hl : l.length ≤ 1024) :
    fO prog 245 #[.pointer (some ⟨p, 0, none⟩), v] w fun _ w' => aB w0 w' (bY p ((l :: E).take 60) 0 • F) := by
  obtain ⟨s, h, hs, hh, hE, hp, hm, ho, H⟩ := H.ring
  have hh' : (h + 59) % 60 < 60 := by omega
  refine gB func245 ntmps245 ?_
  dsimp only [bf, Nat.reduceAdd]
  refine ay (ah (aN rfl (aN rfl (bP rfl (bF 61 underlying170 rfl sizeOf3 rfl (dV underlying3 rfl H.get.2 (sG hs) (aX (gy rfl rfl (by omega)) (aX (iG rfl rfl (by omega)) ?_))))))))
  refine aX (zO rfl rfl (by omega) (by  omega)) ?_
  refine bP rfl (bF 61 underlying170 rfl sizeOf3 rfl (aG (dA H sizeOf3 rfl rfl rfl (by rw [iq hs]; decide)) ?_))
  rintro _ w1 H1
  rw [show (((h : Int) + 60 - 1) % 60) = (((h + 59) % 60 : Nat) : Int) from by omega, D7 hs] at H1
  refine aA (aj (ay ?_))
  refine jT (n := 11) [0, 1, 2, 3, 4, 5, 6, 7, 8, 9, 10] (fun W => W.heap[p]? = some (.cells (bM s ((h + 59) % 60) E.length place) 170 (0, 0))) (by kernel_rfl) (by kernel_rfl) rfl ?_
  have hS0 : (fun W => W.heap[p]? = some (.cells (bM s ((h + 59) % 60) E.length place) 170 (0, 0))) (w1.drew) := H1.get.2
  have H1d := H1.drew
  refine iF 0 rfl hS0 rfl (iF 1 rfl hS0 rfl (jQ 2 rfl hS0 rfl (gV 3 rfl hS0 61 underlying170 rfl sizeOf3 rfl (jk 4 rfl hS0 (fun W hW => jP underlying3 rfl hW (sG hs)) (iF 5 rfl hS0 rfl (jQ 7 rfl hS0 rfl (gV 8 rfl hS0 1 underlying170 rfl sizeOf168 rfl (kE 6 rfl (wW rfl func178 (lS H1d hr.under.under (by omega))) ?_))))))))
  rintro u w2 H2
  have hS2 : (fun W => W.heap[p]? = some (.cells (bM s ((h + 59) % 60) E.length place) 170 (0, 0))) w2 := H2.swap.get.2
  refine yt hS2 ?_
  refine jg 9 rfl hS2 (fun _ => qO underlying168 sizeOf22 rfl rfl (by omega)) ?_
  refine fU 10 rfl (by kernel_rfl) (dA H2.swap sizeOf22 rfl rfl H2.aT.one (by rw [iq hs]; omega)) ?_
  rintro _ w3 H3
  rw [show (1 + ((((h + 59) % 60 : Nat) : Int)).toNat * 1) = 1 + (h + 59) % 60 from by omega, rG hs hh'] at H3
  have hs' : (s.set ((h + 59) % 60) u).length = 60 := by simp [hs]
  have ho' := F6 ho (u := u) (i := (h + 59) % 60) H2.aT.one
  refine BG (by kernel_rfl) ?_
  refine pO (aj (ay (ah (aN rfl (aN rfl (bP rfl (bF 62 underlying170 rfl sizeOf3 rfl (dV underlying3 rfl H3.get.2 (jv hs') (aX (gy rfl rfl (by omega)) (aX (RS rfl rfl) (bP rfl (bF 62 underlying170 rfl sizeOf3 rfl (aG (dA H3 sizeOf3 rfl rfl rfl (by rw [iq hs']; decide)) ?_)))))))))))))
  rintro _ w4 H4
  rw [show min ((E.length : Int) + 1) 60 = ((min (E.length + 1) 60 : Nat) : Int) from by omega, D8 hs'] at H4
  refine aA (aj (ah (aN rfl (bP rfl (bF 63 underlying170 rfl sizeOf3 rfl (aG (dA H4 sizeOf3 rfl rfl rfl (by rw [iq hs']; decide)) ?_))))))
  rintro _ w5 H5
  rw [show (Value.int .i64 0) = .int .i64 ((0 : Nat) : Int) from rfl, iD hs'] at H5
  refine aA (fZ (.inr rfl) results245 ?_)
  have hlen : ((l :: E).take 60).length = min (E.length + 1) 60 := by simp; omega
  refine aB.mJ hs' hh' (by omega) (.inr rfl) ?_ ho' ?_
  · intro e he
    rcases List.mem_cons.1 (List.mem_of_mem_take he) with rfl | he
    · exact hl
    · exact hm e he
  · rw [hlen]
    exact (H5.swap.jG.DW.DX (oK (fun I a b => JD hs hh hE a b) _)).swap
end
end Go.Proofs.YtgndbccogcofjaaGreatDoor
end
section
namespace Go.Proofs.YtgndbccogcofjaaGreatDoor
open Go.RowKit
open _root_.Go.Proofs.Tryz
def vN (E : List (List Int)) (place : Nat) (way : Int) (l : List Int) : Int × List (List Int) × Nat :=
  if way < 0 ∨ 2 < way then (1, E, place)
  else if 1024 < l.length then (3, E, place)
  else if way ≠ 0 ∧ 0 < E.length then
    if 1024 < l.length + (E.getD 0 []).length then (3, E, place)
    else (0, (if way = 1 then E.getD 0 [] ++ l else l ++ E.getD 0 []) :: E.tail, 0)
  else if way = 0 ∧ l.length = 0 then (0, E, place)
  else (0, (l :: E).take 60, 0)
theorem Ae {I : Hp} {s : List Value} {h : Nat} {l : List Int} {v : Value} {E : List (List Int)} (hs : s.length = 60) (hh : h < 60) (hE : E.length ≤ 60) (h0 : 0 < E.length) (hS : Ii I s h E) (hv : wO I .i32 v l) :
    Ii I (s.set h v) h (l :: E.tail) := by
  intro i hi
  have hi' : i < E.length := by simp at hi; omega
  cases i with
  | zero =>
    have e : (h + 0) % 60 = h := by omega
    rw [e, List.getD_eq_getElem?_getD, List.getElem?_set_self (by omega)]
    exact hv
  | succ i =>
    have hne : ¬ h = (h + (i + 1)) % 60 := by omega
    rw [List.getD_eq_getElem?_getD, List.getElem?_set_ne hne, ← List.getD_eq_getElem?_getD]
    have := hS (i + 1) hi'
    simpa [List.getD_eq_getElem?_getD] using this
section
variable {w0 w : World} {F : HP} {p place : Nat} {E : List (List Int)} {v : Value} {l : List Int} {way : Int}
theorem oH (h0 : 0 < E.length) (x : List Int) : (x :: E.tail).length = E.length := by simp; omega
theorem D9 (H : aB w0 w (bY p E place • F)) (hr : gW w0 F .i32 v l) (hw : way < 0 ∨ 2 < way) :
  fO prog 233 #[.pointer (some ⟨p, 0, none⟩), .int .i64 way, v] w fun v' w' => v' = .int .i64 1 ∧ aB w0 w' (bY p E place • F) := by
 obtain ⟨s, h, hs, hh, hE, hp, hm, ho, H1⟩ := H.ring
 have hb := H1.get.2
 refine gB func233 ntmps233 ?_
 dsimp only [bf, Nat.reduceAdd]
 refine ay (ah (aV rfl (aA (aj (ay (ay (ah (aN rfl (bZ rfl func177 (iy _ hb uh) ?_)))))))))
 rintro _ _ ⟨rfl, rfl⟩
 refine aA (aj (nN (aP (aj (ay (ay (ah (aN rfl (aX (eu rfl rfl) (fK rfl (fun h1 => ?_) (fun h1 => ?_)))))))))))
 ·(try simp only [aH] at h1)
  try (exfalso; first | contradiction | omega)
  all_goals
   refine bD (bD (fG rfl rfl (aA (aj (uX (ay (ah (aV rfl (aA (aj (aJ (aK (aI (.inl rfl) results233 rfl ?_)))))))))))))
   exact ⟨rfl, H⟩
 ·(try simp only [aH] at h1)
  try (exfalso; first | contradiction | omega)
  all_goals
   refine aZ (aN rfl (aZ (aX (dn rfl rfl) (eG rfl rfl (aA (aj (aO rfl (fun h2 => ?_) (fun h => by exfalso; (try simp only [aH] at h); first | contradiction | omega | (simp at h <;> omega)))))))))
   (try simp only [aH] at h2)
   refine ay (ah (aV rfl (aA (aj (aJ (aK (aI (.inl rfl) results233 rfl ?_)))))))
   exact ⟨rfl, H⟩
theorem CG (H : aB w0 w (bY p E place • F)) (hr : gW w0 F .i32 v l) (hw : 0 ≤ way ∧ way ≤ 2) (hl : 1024 < l.length) :
  fO prog 233 #[.pointer (some ⟨p, 0, none⟩), .int .i64 way, v] w fun v' w' => v' = .int .i64 3 ∧ aB w0 w' (bY p E place • F) := by
 obtain ⟨s, h, hs, hh, hE, hp, hm, ho, H1⟩ := H.ring
 have hb := H1.get.2
 obtain ⟨a, c, rfl, _, _, _⟩ := (hr w H.right).open
 refine gB func233 ntmps233 ?_
 dsimp only [bf, Nat.reduceAdd]
 refine ay (ah (aV rfl (aA (aj (ay (ay (ah (aN rfl (bZ rfl func177 (iy _ hb uh) ?_)))))))))
 rintro _ _ ⟨rfl, rfl⟩
 refine aA (aj (nN (aP (aj (ay (ay (ah (aN rfl (aX (eu rfl rfl) (fK rfl (fun h => by exfalso; (try simp only [aH] at h); first | contradiction | omega | (simp at h <;> omega)) (fun h1 => ?_)))))))))))
 (try simp only [aH] at h1)
 refine aZ (aN rfl (aZ (aX (dn rfl rfl) (eG rfl rfl (aA (aj (aO rfl (fun h => by exfalso; (try simp only [aH] at h); first | contradiction | omega | (simp at h <;> omega)) (fun h2 => ?_))))))))
 (try simp only [aH] at h2)
 refine aP (aj (ay (ah (aN rfl (aX (dU rfl rfl) (fK rfl (fun h3 => ?_) (fun h3 => ?_)))))))
 ·(try simp only [aH] at h3)
  try (exfalso; first | contradiction | omega)
  all_goals
   refine aZ (aN rfl (aZ (bP rfl (aZ (bF 62 underlying170 rfl sizeOf3 rfl (aZ (dV underlying3 rfl hb (jv hs) (aZ (aX (dn rfl rfl) (fG rfl rfl (aV rfl (aA (aj (ay (bC (ay (ah (aN rfl (aX (fJ underlying22 rfl) (aX (dn rfl rfl) (fK rfl (fun h4 => ?_) (fun h => by exfalso; (try simp only [aH] at h); first | contradiction | omega | (simp at h <;> omega)))))))))))))))))))))))
   (try simp only [aH] at h4)
   refine bD (bD (jq (jq (jq (jq (jq (jq (jq (bD (fG rfl rfl (aV rfl (aA (aj (uX (ay (ah (aV rfl (aA (aj (aJ (aW (aK (aI (.inl rfl) results233 rfl ?_)))))))))))))))))))))))
   exact ⟨rfl, H⟩
 ·(try simp only [aH] at h3)
  try (exfalso; first | contradiction | omega)
  all_goals
   refine bD (bD (bD (bD (bD (eG rfl rfl (aV rfl (aA (aj (ay (bC (ay (ah (aN rfl (aX (fJ underlying22 rfl) (aX (dn rfl rfl) (fK rfl (fun h5 => ?_) (fun h => by exfalso; (try simp only [aH] at h); first | contradiction | omega | (simp at h <;> omega))))))))))))))))))
   (try simp only [aH] at h5)
   refine bD (bD (jq (jq (jq (jq (jq (jq (jq (bD (fG rfl rfl (aV rfl (aA (aj (uX (ay (ah (aV rfl (aA (aj (aJ (aW (aK (aI (.inl rfl) results233 rfl ?_)))))))))))))))))))))))
   exact ⟨rfl, H⟩
theorem yF (H : aB w0 w (bY p E place • F)) (hr : gW w0 F .i32 v l) (hl : l.length = 0) :
  fO prog 233 #[.pointer (some ⟨p, 0, none⟩), .int .i64 0, v] w fun v' w' => v' = .int .i64 0 ∧ aB w0 w' (bY p E place • F) := by
 obtain ⟨s, h, hs, hh, hE, hp, hm, ho, H1⟩ := H.ring
 have hb := H1.get.2
 obtain ⟨a, c, rfl, _, _, _⟩ := (hr w H.right).open
 refine gB func233 ntmps233 ?_
 dsimp only [bf, Nat.reduceAdd]
 refine ay (ah (aV rfl (aA (aj (ay (ay (ah (aN rfl (bZ rfl func177 (iy _ hb uh) ?_)))))))))
 rintro _ _ ⟨rfl, rfl⟩
 refine aA (aj (nN (aP (aj (ay (ay (ah (aN rfl (aX (eu rfl rfl) (fK rfl (fun h => by exfalso; (try simp only [aH] at h); first | contradiction | omega | (simp at h <;> omega)) (fun h1 => ?_)))))))))))
 (try simp only [aH] at h1)
 refine aZ (aN rfl (aZ (aX (dn rfl rfl) (eG rfl rfl (aA (aj (aO rfl (fun h => by exfalso; (try simp only [aH] at h); first | contradiction | omega | (simp at h <;> omega)) (fun h2 => ?_))))))))
 (try simp only [aH] at h2)
 refine aP (aj (ay (ah (aN rfl (aX (dU rfl rfl) (fK rfl (fun h => by exfalso; (try simp only [aH] at h); first | contradiction | omega | (simp at h <;> omega)) (fun h3 => ?_)))))))
 (try simp only [aH] at h3)
 refine bD (bD (bD (bD (bD (eG rfl rfl (aV rfl (aA (aj (ay (bC (ay (ah (aN rfl (aX (fJ underlying22 rfl) (aX (dn rfl rfl) (fK rfl (fun h => by exfalso; (try simp only [aH] at h); first | contradiction | omega | (simp at h <;> omega)) (fun h4 => ?_)))))))))))))))))
 (try simp only [aH] at h4)
 refine aZ (aN rfl (aZ (aN rfl (bD (bD (bD (bD (bD (bD (bD (aZ (eG rfl rfl (eG rfl rfl (aV rfl (aA (aj (nN (ay (ah (aN rfl (aX (dO rfl rfl) (fK rfl (fun h5 => ?_) (fun h => by exfalso; (try simp only [aH] at h); first | contradiction | omega | (simp at h <;> omega))))))))))))))))))))))))
 (try simp only [aH] at h5)
 refine aZ (aN rfl (aZ (aX (fJ underlying22 rfl) (aZ (aX (dO rfl rfl) (fG rfl rfl (aV rfl (aA (aj (aO rfl (fun h6 => ?_) (fun h => by exfalso; (try simp only [aH] at h); first | contradiction | omega | (simp at h <;> omega))))))))))))
 (try simp only [aH] at h6)
 refine ay (ah (aV rfl (aA (aj (aJ (aW (aK (aI (.inl rfl) results233 rfl ?_))))))))
 exact ⟨rfl, H⟩
theorem Ea (H : aB w0 w (bY p E place • F)) (hr : gW w0 F .i32 v l) (hw : 0 ≤ way ∧ way ≤ 2) (hl : l.length ≤ 1024) (hj : way = 0 ∨ E.length = 0) (hn : ¬ (way = 0 ∧ l.length = 0)) :
  fO prog 233 #[.pointer (some ⟨p, 0, none⟩), .int .i64 way, v] w fun v' w' => v' = .int .i64 0 ∧ aB w0 w' (bY p ((l :: E).take 60) 0 • F) := by
 obtain ⟨s, h, hs, hh, hE, hp, hm, ho, H1⟩ := H.ring
 have hb := H1.get.2
 obtain ⟨a, c, hv, _, _, _⟩ := (hr w H.right).open
 subst hv
 refine gB func233 ntmps233 ?_
 dsimp only [bf, Nat.reduceAdd]
 refine ay (ah (aV rfl (aA (aj (ay (ay (ah (aN rfl (bZ rfl func177 (iy _ hb uh) ?_)))))))))
 rintro _ _ ⟨rfl, rfl⟩
 refine aA (aj (nN (aP (aj (ay (ay (ah (aN rfl (aX (eu rfl rfl) (fK rfl (fun h => by exfalso; (try simp only [aH] at h); first | contradiction | omega | (simp at h <;> omega)) (fun h1 => ?_)))))))))))
 (try simp only [aH] at h1)
 refine aZ (aN rfl (aZ (aX (dn rfl rfl) (eG rfl rfl (aA (aj (aO rfl (fun h => by exfalso; (try simp only [aH] at h); first | contradiction | omega | (simp at h <;> omega)) (fun h2 => ?_))))))))
 (try simp only [aH] at h2)
 refine aP (aj (ay (ah (aN rfl (aX (dU rfl rfl) (fK rfl (fun h3 => ?_) (fun h3 => ?_)))))))
 ·(try simp only [aH] at h3)
  try (exfalso; first | contradiction | omega)
  all_goals
   refine aZ (aN rfl (aZ (bP rfl (aZ (bF 62 underlying170 rfl sizeOf3 rfl (aZ (dV underlying3 rfl hb (jv hs) (aZ ?_))))))))
   refine aX (Ew (dn rfl rfl) (by first | (rw [decide_eq_true_eq]; omega) | (rw [decide_eq_false_iff_not]; omega) | (rw [beq_iff_eq]; omega) | (rw [beq_eq_false_iff_ne]; omega) | (rw [bne_iff_ne]; omega) | (rw [bne_eq_false_iff_eq]; omega) | (simp; done) | (simp; omega))) ?_
   refine fG rfl rfl (aV rfl (aA (aj (ay (bC (ay (ah (aN rfl (aX (fJ underlying22 rfl) (aX (dn rfl rfl) (fK rfl (fun h => by exfalso; (try simp only [aH] at h); first | contradiction | omega | (simp at h <;> omega)) (fun h4 => ?_))))))))))))
   (try simp only [aH] at h4)
   refine aZ (aN rfl (aZ (aN rfl (bD (bD (bD (bD (bD (bD (bD (aZ (eG rfl rfl (eG rfl rfl (aV rfl (aA (aj (nN (ay (ah (aN rfl (aX (dO rfl rfl) (fK rfl (fun h5 => ?_) (fun h5 => ?_)))))))))))))))))))))))
   ·(try simp only [aH] at h5)
    try (exfalso; first | contradiction | omega)
    all_goals
     refine aZ (aN rfl (aZ (aX (fJ underlying22 rfl) (aZ (aX (dO rfl rfl) (fG rfl rfl (aV rfl (aA (aj (aO rfl (fun h => by exfalso; (try simp only [aH] at h); first | contradiction | omega | (simp at h <;> omega)) (fun h6 => ?_)))))))))))
     (try simp only [aH] at h6)
     refine ay (ah (aN rfl (aX (kF rfl) (aV rfl (aA (aj (aO rfl (fun h7 => ?_) (fun h7 => ?_))))))))
     ·(try simp only [aH] at h7)
      try (exfalso; first | contradiction | omega)
      all_goals
       refine ah (aN rfl (aN rfl (bZ rfl func245 (oG H hr hl) ?_)))
       rintro _ w2 H7
       obtain ⟨s2, h2, hs2, hh2, hE2, hp2, hm2, ho2, H2⟩ := H7.ring
       refine aA (aQ (aj (ay (ah (aN rfl (bP rfl (bF 63 underlying170 rfl sizeOf3 rfl (aG (dA H2 sizeOf3 rfl rfl rfl (by rw [iq hs2]; decide)) ?_))))))))
       rintro _ w3 H8
       rw [show (Value.int .i64 0) = .int .i64 ((0 : Nat) : Int) from rfl, iD hs2] at H8
       refine aA (aj (ay (ah (aV rfl (aA (aj (aJ (aI (.inl rfl) results233 rfl ?_))))))))
       exact ⟨rfl, aB.mJ hs2 hh2 hE2 hp2 hm2 ho2 H8⟩
     ·(try simp only [aH] at h7)
      try (exfalso; first | contradiction | omega)
      all_goals
       refine ay (ah (aN rfl (aX (dO rfl rfl) (aV rfl (aA (aj (aO rfl (fun h8 => ?_) (fun h8 => ?_))))))))
       ·(try simp only [aH] at h8)
        exfalso; first | contradiction | omega
       ·(try simp only [aH] at h8)
        exfalso; first | contradiction | omega
   ·(try simp only [aH] at h5)
    try (exfalso; first | contradiction | omega)
    all_goals
     refine bD (bD (bD (eG rfl rfl (aV rfl (aA (aj (nN (ay (ah (aN rfl (aX (kF rfl) (aV rfl (aA (aj (aO rfl (fun h9 => ?_) (fun h9 => ?_))))))))))))))))
     ·(try simp only [aH] at h9)
      try (exfalso; first | contradiction | omega)
      all_goals
       refine ah (aN rfl (aN rfl (bZ rfl func245 (oG H hr hl) ?_)))
       rintro _ Jw H7
       obtain ⟨s2, h2, hs2, hh2, hE2, hp2, hm2, ho2, H2⟩ := H7.ring
       refine aA (aQ (aj (ay (ah (aN rfl (bP rfl (bF 63 underlying170 rfl sizeOf3 rfl (aG (dA H2 sizeOf3 rfl rfl rfl (by rw [iq hs2]; decide)) ?_))))))))
       rintro _ MO H8
       rw [show (Value.int .i64 0) = .int .i64 ((0 : Nat) : Int) from rfl, iD hs2] at H8
       refine aA (aj (ay (ah (aV rfl (aA (aj (aJ (aI (.inl rfl) results233 rfl ?_))))))))
       exact ⟨rfl, aB.mJ hs2 hh2 hE2 hp2 hm2 ho2 H8⟩
     ·(try simp only [aH] at h9)
      try (exfalso; first | contradiction | omega)
      all_goals
       refine ay (ah (aN rfl (aX (dO rfl rfl) (aV rfl (aA (aj (aO rfl (fun h10 => ?_) (fun h10 => ?_))))))))
       ·(try simp only [aH] at h10)
        exfalso; first | contradiction | omega
       ·(try simp only [aH] at h10)
        exfalso; first | contradiction | omega
 ·(try simp only [aH] at h3)
  try (exfalso; first | contradiction | omega)
  all_goals
   refine bD (bD (bD (bD (bD (eG rfl rfl (aV rfl (aA (aj (ay (bC (ay (ah (aN rfl (aX (fJ underlying22 rfl) (aX (dn rfl rfl) (fK rfl (fun h => by exfalso; (try simp only [aH] at h); first | contradiction | omega | (simp at h <;> omega)) (fun h11 => ?_)))))))))))))))))
   (try simp only [aH] at h11)
   refine aZ (aN rfl (aZ (aN rfl (bD (bD (bD (bD (bD (bD (bD (aZ (eG rfl rfl (eG rfl rfl (aV rfl (aA (aj (nN (ay (ah (aN rfl (aX (dO rfl rfl) (fK rfl (fun h12 => ?_) (fun h12 => ?_)))))))))))))))))))))))
   ·(try simp only [aH] at h12)
    try (exfalso; first | contradiction | omega)
    all_goals
     refine aZ (aN rfl (aZ (aX (fJ underlying22 rfl) (aZ (aX (dO rfl rfl) (fG rfl rfl (aV rfl (aA (aj (aO rfl (fun h => by exfalso; (try simp only [aH] at h); first | contradiction | omega | (simp at h <;> omega)) (fun h13 => ?_)))))))))))
     (try simp only [aH] at h13)
     refine ay (ah (aN rfl (aX (kF rfl) (aV rfl (aA (aj (aO rfl (fun h14 => ?_) (fun h14 => ?_))))))))
     ·(try simp only [aH] at h14)
      try (exfalso; first | contradiction | omega)
      all_goals
       refine ah (aN rfl (aN rfl (bZ rfl func245 (oG H hr hl) ?_)))
       rintro _ Vw H7
       obtain ⟨s2, h2, hs2, hh2, hE2, hp2, hm2, ho2, H2⟩ := H7.ring
       refine aA (aQ (aj (ay (ah (aN rfl (bP rfl (bF 63 underlying170 rfl sizeOf3 rfl (aG (dA H2 sizeOf3 rfl rfl rfl (by rw [iq hs2]; decide)) ?_))))))))
       rintro _ Vx H8
       rw [show (Value.int .i64 0) = .int .i64 ((0 : Nat) : Int) from rfl, iD hs2] at H8
       refine aA (aj (ay (ah (aV rfl (aA (aj (aJ (aI (.inl rfl) results233 rfl ?_))))))))
       exact ⟨rfl, aB.mJ hs2 hh2 hE2 hp2 hm2 ho2 H8⟩
     ·(try simp only [aH] at h14)
      try (exfalso; first | contradiction | omega)
      all_goals
       refine ay (ah (aN rfl (aX (dO rfl rfl) (aV rfl (aA (aj (aO rfl (fun h15 => ?_) (fun h15 => ?_))))))))
       ·(try simp only [aH] at h15)
        exfalso; first | contradiction | omega
       ·(try simp only [aH] at h15)
        exfalso; first | contradiction | omega
   ·(try simp only [aH] at h12)
    try (exfalso; first | contradiction | omega)
    all_goals
     refine bD (bD (bD (eG rfl rfl (aV rfl (aA (aj (nN (ay (ah (aN rfl (aX (kF rfl) (aV rfl (aA (aj (aO rfl (fun h16 => ?_) (fun h16 => ?_))))))))))))))))
     ·(try simp only [aH] at h16)
      try (exfalso; first | contradiction | omega)
      all_goals
       refine ah (aN rfl (aN rfl (bZ rfl func245 (oG H hr hl) ?_)))
       rintro _ VA H7
       obtain ⟨s2, h2, hs2, hh2, hE2, hp2, hm2, ho2, H2⟩ := H7.ring
       refine aA (aQ (aj (ay (ah (aN rfl (bP rfl (bF 63 underlying170 rfl sizeOf3 rfl (aG (dA H2 sizeOf3 rfl rfl rfl (by rw [iq hs2]; decide)) ?_))))))))
       rintro _ w39 H8
       rw [show (Value.int .i64 0) = .int .i64 ((0 : Nat) : Int) from rfl, iD hs2] at H8
       refine aA (aj (ay (ah (aV rfl (aA (aj (aJ (aI (.inl rfl) results233 rfl ?_))))))))
       exact ⟨rfl, aB.mJ hs2 hh2 hE2 hp2 hm2 ho2 H8⟩
     ·(try simp only [aH] at h16)
      try (exfalso; first | contradiction | omega)
      all_goals
       refine ay (ah (aN rfl (aX (dO rfl rfl) (aV rfl (aA (aj (aO rfl (fun h17 => ?_) (fun h17 => ?_))))))))
       ·(try simp only [aH] at h17)
        exfalso; first | contradiction | omega
       ·(try simp only [aH] at h17)
        exfalso; first | contradiction | omega
theorem Eb (H : aB w0 w (bY p E place • F)) (hr : gW w0 F .i32 v l) (hw : 0 < way ∧ way ≤ 2) (hl : l.length ≤ 1024) (hE0 : 0 < E.length) (hj : 1024 < l.length + (E.getD 0 []).length) :
  fO prog 233 #[.pointer (some ⟨p, 0, none⟩), .int .i64 way, v] w fun v' w' => v' = .int .i64 3 ∧ aB w0 w' (bY p E place • F) := by
 obtain ⟨s, h, hs, hh, hE, hp, hm, ho, H1⟩ := H.ring
 have hb := H1.get.2
 obtain ⟨a, c, hv, _, _, _⟩ := (hr w H.right).open
 subst hv
 have hm0 : (E.getD 0 []).length ≤ 1024 := hm _ (by rw [List.getD_eq_getElem?_getD, List.getElem?_eq_getElem hE0]; simp)
 refine gB func233 ntmps233 ?_
 dsimp only [bf, Nat.reduceAdd]
 refine ay (ah (aV rfl (aA (aj (ay (ay (ah (aN rfl (bZ rfl func177 (iy _ hb uh) ?_)))))))))
 rintro _ _ ⟨rfl, rfl⟩
 refine aA (aj (nN (aP (aj (ay (ay (ah (aN rfl (aX (eu rfl rfl) (fK rfl (fun h => by exfalso; (try simp only [aH] at h); first | contradiction | omega | (simp at h <;> omega)) (fun h1 => ?_)))))))))))
 (try simp only [aH] at h1)
 refine aZ (aN rfl (aZ (aX (dn rfl rfl) (eG rfl rfl (aA (aj (aO rfl (fun h => by exfalso; (try simp only [aH] at h); first | contradiction | omega | (simp at h <;> omega)) (fun h2 => ?_))))))))
 (try simp only [aH] at h2)
 refine aP (aj (ay (ah (aN rfl (aX (dU rfl rfl) (fK rfl (fun h3 => ?_) (fun h => by exfalso; (try simp only [aH] at h); first | contradiction | omega | (simp at h <;> omega))))))))
 (try simp only [aH] at h3)
 refine aZ (aN rfl (aZ (bP rfl (aZ (bF 62 underlying170 rfl sizeOf3 rfl (aZ (dV underlying3 rfl hb (jv hs) (aZ ?_))))))))
 refine aX (wF (dn rfl rfl) (by first | (rw [decide_eq_true_eq]; omega) | (rw [decide_eq_false_iff_not]; omega) | (rw [beq_iff_eq]; omega) | (rw [beq_eq_false_iff_ne]; omega) | (rw [bne_iff_ne]; omega) | (rw [bne_eq_false_iff_eq]; omega) | (simp; done) | (simp; omega))) ?_
 refine fG rfl rfl (aV rfl (aA (aj (ay (bC (ay (ah (aN rfl (aX (fJ underlying22 rfl) (aX (dn rfl rfl) (fK rfl (fun h => by exfalso; (try simp only [aH] at h); first | contradiction | omega | (simp at h <;> omega)) (fun h4 => ?_))))))))))))
 (try simp only [aH] at h4)
 refine aZ (aN rfl (aZ (aN rfl (aZ (aN rfl (aZ (aX (fJ underlying22 rfl) (aZ (aN rfl (aZ (bZ rfl func179 (oO (k := 0) hs hh (by omega) hb) ?_)))))))))))
 rintro _ w2 ⟨rfl, hD⟩
 obtain ⟨a0, c0, e0, _, _, _⟩ := ((H1.kV hD).right.vM (i := 0) hE0).open
 rw [e0]
 refine aZ (aX (fJ underlying22 rfl) (aZ (aX (iG rfl rfl (by omega)) (aZ ?_))))
 refine aX (wF (dn rfl rfl) (by first | (rw [decide_eq_true_eq]; omega) | (rw [decide_eq_false_iff_not]; omega) | (rw [beq_iff_eq]; omega) | (rw [beq_eq_false_iff_ne]; omega) | (rw [bne_iff_ne]; omega) | (rw [bne_eq_false_iff_eq]; omega) | (simp; done) | (simp; omega))) ?_
 refine aZ (fG rfl rfl (eG rfl rfl (aV rfl (aA (aj (uX (ay (ah (aV rfl (aA (aj (aJ (aW (aK (aI (.inl rfl) results233 rfl ?_)))))))))))))))
 exact ⟨rfl, H.kV hD⟩
theorem CJ (H : aB w0 w (bY p E place • F)) (hr : gW w0 F .i32 v l) (hw : 0 < way ∧ way ≤ 2) (hE0 : 0 < E.length) (hj : l.length + (E.getD 0 []).length ≤ 1024) :
    fO prog 233 #[.pointer (some ⟨p, 0, none⟩), .int .i64 way, v] w fun v' w' => v' = .int .i64 0 ∧ aB w0 w' (bY p ((if way = 1 then E.getD 0 [] ++ l else l ++ E.getD 0 []) :: E.tail) 0 • F) := by
  obtain ⟨s, h, hs, hh, hE, hp, hm, ho, H⟩ := H.ring
  have hb := H.get.2
  obtain ⟨a, c, hv, _, _, _⟩ := (hr w H.right.right).open
  subst hv
  have hm0 : (E.getD 0 []).length ≤ 1024 := hm _ (by rw [List.getD_eq_getElem?_getD, List.getElem?_eq_getElem hE0]; simp)
  have aae := EL (h := h) (n := E.length) (p := place) hs (i := (h + 0) % 60) (by omega)
  refine gB func233 ntmps233 ?_
  dsimp only [bf, Nat.reduceAdd]
  refine ay (ah (aV rfl (aA (aj (ay (ay (ah (aN rfl (bZ rfl func177 (iy _ hb uh) ?_)))))))))
  rintro _ _ ⟨rfl, rfl⟩
  refine aA (aj (nN (aP (aj (ay (ay (ah (aN rfl (aX (eu rfl rfl) (fK rfl (fun h => by exfalso; (try simp only [aH] at h); first | contradiction | omega | (simp at h <;> omega)) (fun h1 => ?_)))))))))))
  (try simp only [aH] at h1)
  refine aZ (aN rfl (aZ (aX (dn rfl rfl) (eG rfl rfl (aA (aj (aO rfl (fun h => by exfalso; (try simp only [aH] at h); first | contradiction | omega | (simp at h <;> omega)) (fun h2 => ?_))))))))
  (try simp only [aH] at h2)
  refine aP (aj (ay (ah (aN rfl (aX (dU rfl rfl) (fK rfl (fun h3 => ?_) (fun h => by exfalso; (try simp only [aH] at h); first | contradiction | omega | (simp at h <;> omega))))))))
  (try simp only [aH] at h3)
  refine aZ (aN rfl (aZ (bP rfl (aZ (bF 62 underlying170 rfl sizeOf3 rfl (aZ (dV underlying3 rfl hb (jv hs) (aZ ?_))))))))
  refine aX (wF (dn rfl rfl) (by first | (rw [decide_eq_true_eq]; omega) | (rw [decide_eq_false_iff_not]; omega) | (rw [beq_iff_eq]; omega) | (rw [beq_eq_false_iff_ne]; omega) | (rw [bne_iff_ne]; omega) | (rw [bne_eq_false_iff_eq]; omega) | (simp; done) | (simp; omega))) ?_
  refine fG rfl rfl (aV rfl (aA (aj (ay (bC (ay (ah (aN rfl (aX (fJ underlying22 rfl) (aX (dn rfl rfl) (fK rfl (fun h => by exfalso; (try simp only [aH] at h); first | contradiction | omega | (simp at h <;> omega)) (fun h4 => ?_))))))))))))
  (try simp only [aH] at h4)
  refine aZ (aN rfl (aZ (aN rfl (aZ (aN rfl (aZ (aX (fJ underlying22 rfl) (aZ (aN rfl (aZ (bZ rfl func179 (oO (k := 0) hs hh (by omega) hb) ?_)))))))))))
  rintro _ w2 ⟨rfl, hD⟩
  obtain ⟨a0, c0, e0, _, _, _⟩ := ((H.kV hD).right.vM (i := 0) hE0).open
  rw [e0]
  have nO := H.kV hD
  refine aZ (aX (fJ underlying22 rfl) (aZ (aX (iG rfl rfl (by omega)) (aZ ?_))))
  refine aX (Ew (dn rfl rfl) (by first | (rw [decide_eq_true_eq]; omega) | (rw [decide_eq_false_iff_not]; omega) | (rw [beq_iff_eq]; omega) | (rw [beq_eq_false_iff_ne]; omega) | (rw [bne_iff_ne]; omega) | (rw [bne_eq_false_iff_eq]; omega) | (simp; done) | (simp; omega))) ?_
  refine aZ (fG rfl rfl (eG rfl rfl (aV rfl (aA (aj (nN (ay (ah (aN rfl (aX (dO rfl rfl) (fK rfl (fun h => by exfalso; (try simp only [aH] at h); first | contradiction | omega | (simp at h <;> omega)) (fun h5 => ?_))))))))))))
  (try simp only [aH] at h5)
  refine bD (bD (bD (eG rfl rfl (aV rfl (aA (aj (nN (ay (ah (aN rfl (aX (kF rfl) (aV rfl (aA (aj (aO rfl (fun h => by exfalso; (try simp only [aH] at h); first | contradiction | omega | (simp at h <;> omega)) (fun h6 => ?_))))))))))))))))
  (try simp only [aH] at h6)
  refine ay (ah (aN rfl (aX (dO rfl rfl) (aV rfl (aA (aj (aO rfl (fun h7 => ?_) (fun h7 => ?_))))))))
  · (try simp only [aH] at h7)
    try (exfalso; first | contradiction | omega)
    all_goals
      have hw1 : way = 1 := by omega
      refine jT (n := 14) [0, 1, 2, 3, 4, 5, 6, 7, 8, 9, 10, 11, 12, 13] (fun W => W.heap[p]? = some (.cells (bM s h E.length place) 170 (0, 0))) (by kernel_rfl) (by kernel_rfl) rfl ?_
      have hS0 : (fun W => W.heap[p]? = some (.cells (bM s h E.length place) 170 (0, 0))) (w2.drew) := nO.get.2
      have Ij := nO.drew
      refine iF 0 rfl hS0 rfl (iF 1 rfl hS0 rfl (jQ 2 rfl hS0 rfl (gV 3 rfl hS0 61 underlying170 rfl sizeOf3 rfl (jk 4 rfl hS0 (fun W hW => jP underlying3 rfl hW (sG hs)) (iF 5 rfl hS0 rfl (iF 7 rfl hS0 rfl (jQ 10 rfl hS0 rfl (gV 11 rfl hS0 1 underlying170 rfl sizeOf168 rfl (kE 6 rfl (wW rfl func179 (oO (k := 0) hs hh (by omega) Ij.get.2)) ?_)))))))))
      rintro _ w3 ⟨rfl, hD2⟩
      have uZ := Ij.kV hD2
      have hS3 : (fun W => W.heap[p]? = some (.cells (bM s h E.length place) 170 (0, 0))) w3 := uZ.get.2
      refine yt hS3 ?_
      refine kE 8 rfl (KL (vs := [s.getD ((h + 0) % 60) undef, .slice a l.length c]) uZ underlying54 sizeOf22 zeroValue22 rfl rfl rfl (by decide) (by rw [e0]; simp [Value.oneCell'])) ?_
      rintro _ w4 ⟨b2, rfl, H4⟩
      have hS4 : (fun W => W.heap[p]? = some (.cells (bM s h E.length place) 170 (0, 0))) w4 := H4.swap.get.2
      refine yt hS4 ?_
      refine kE 9 rfl (wW rfl func128 (vK H4 (fun W HW => HW.right.right.vM (i := 0) hE0) hr.under.under.under (by omega))) ?_
      rintro u w5 H5
      have oN := H5.DW
      have hS5 : (fun W => W.heap[p]? = some (.cells (bM s h E.length place) 170 (0, 0))) w5 := oN.get.2
      refine yt hS5 ?_
      refine jg 12 rfl hS5 (fun _ => qO underlying168 sizeOf22 rfl rfl (by omega)) ?_
      refine fU 13 rfl (by kernel_rfl) (dA oN sizeOf22 rfl rfl H5.aT.one (by rw [iq hs]; omega)) ?_
      rintro _ w6 BQ
      rw [show (1 + ((h : Int)).toNat * 1) = 1 + h from by omega, rG hs hh] at BQ
      have hs' : (s.set h u).length = 60 := by simp [hs]
      have ho' := F6 ho (u := u) (i := h) H5.aT.one
      refine BG (by kernel_rfl) ?_
      refine pO (aQ (aj (ay (ah (aN rfl (bP rfl (bF 63 underlying170 rfl sizeOf3 rfl (aG (dA BQ sizeOf3 rfl rfl rfl (by rw [iq hs']; decide)) ?_))))))))
      rintro _ w7 yc
      rw [show (Value.int .i64 0) = .int .i64 ((0 : Nat) : Int) from rfl, iD hs'] at yc
      have Ho := yc.swap.jG
      refine aA (aj (ay (ah (aV rfl (aA (aj (aJ (aI (.inl rfl) results233 rfl ?_))))))))
      refine ⟨rfl, aB.mJ hs' hh (by rw [oH hE0]; omega) (.inr rfl) ?_ ho' ?_⟩
      · intro e he
        rcases List.mem_cons.1 he with rfl | he
        · first | (rw [if_pos hw1, List.length_append]; omega) | (rw [if_neg (by omega), List.length_append]; omega)
        · exact hm e (List.mem_of_mem_tail he)
      · rw [oH hE0]
        first | rw [if_pos hw1] | rw [if_neg (by omega)]
        exact (Ho.r4.swap.DX (oK (fun I a b => Ae hs hh hE hE0 b a) _)).DW.right.swap
  · (try simp only [aH] at h7)
    try (exfalso; first | contradiction | omega)
    all_goals
      have hw2 : way = 2 := by omega
      refine jT (n := 14) [0, 1, 2, 3, 4, 5, 6, 7, 8, 9, 10, 11, 12, 13] (fun W => W.heap[p]? = some (.cells (bM s h E.length place) 170 (0, 0))) (by kernel_rfl) (by kernel_rfl) rfl ?_
      have hS0 : (fun W => W.heap[p]? = some (.cells (bM s h E.length place) 170 (0, 0))) (w2.drew) := nO.get.2
      have H6d := nO.drew
      refine iF 0 rfl hS0 rfl (iF 1 rfl hS0 rfl (jQ 2 rfl hS0 rfl (gV 3 rfl hS0 61 underlying170 rfl sizeOf3 rfl (jk 4 rfl hS0 (fun W hW => jP underlying3 rfl hW (sG hs)) (iF 5 rfl hS0 rfl (iF 6 rfl hS0 rfl (jQ 10 rfl hS0 rfl (gV 11 rfl hS0 1 underlying170 rfl sizeOf168 rfl (kE 7 rfl (wW rfl func179 (oO (k := 0) hs hh (by omega) H6d.get.2)) ?_)))))))))
      rintro _ w8 ⟨rfl, hD2⟩
      have uZ := H6d.kV hD2
      have hS8 : (fun W => W.heap[p]? = some (.cells (bM s h E.length place) 170 (0, 0))) w8 := uZ.get.2
      refine yt hS8 ?_
      refine kE 8 rfl (KL (vs := [.slice a l.length c, s.getD ((h + 0) % 60) undef]) uZ underlying54 sizeOf22 zeroValue22 rfl rfl rfl (by decide) (by rw [e0]; simp [Value.oneCell'])) ?_
      rintro _ w9 ⟨b2, rfl, H9⟩
      have hS9 : (fun W => W.heap[p]? = some (.cells (bM s h E.length place) 170 (0, 0))) w9 := H9.swap.get.2
      refine yt hS9 ?_
      refine kE 9 rfl (wW rfl func128 (vK H9 hr.under.under.under (fun W HW => HW.right.right.vM (i := 0) hE0) (by omega))) ?_
      rintro u w10 nO
      have oN := nO.DW
      have VF : (fun W => W.heap[p]? = some (.cells (bM s h E.length place) 170 (0, 0))) w10 := oN.get.2
      refine yt VF ?_
      refine jg 12 rfl VF (fun _ => qO underlying168 sizeOf22 rfl rfl (by omega)) ?_
      refine fU 13 rfl (by kernel_rfl) (dA oN sizeOf22 rfl rfl nO.aT.one (by rw [iq hs]; omega)) ?_
      rintro _ Hz BQ
      rw [show (1 + ((h : Int)).toNat * 1) = 1 + h from by omega, rG hs hh] at BQ
      have hs' : (s.set h u).length = 60 := by simp [hs]
      have ho' := F6 ho (u := u) (i := h) nO.aT.one
      refine BG (by kernel_rfl) ?_
      refine pO (aQ (aj (ay (ah (aN rfl (bP rfl (bF 63 underlying170 rfl sizeOf3 rfl (aG (dA BQ sizeOf3 rfl rfl rfl (by rw [iq hs']; decide)) ?_))))))))
      rintro _ w12 yc
      rw [show (Value.int .i64 0) = .int .i64 ((0 : Nat) : Int) from rfl, iD hs'] at yc
      have Ho := yc.swap.jG
      refine aA (aj (ay (ah (aV rfl (aA (aj (aJ (aI (.inl rfl) results233 rfl ?_))))))))
      refine ⟨rfl, aB.mJ hs' hh (by rw [oH hE0]; omega) (.inr rfl) ?_ ho' ?_⟩
      · intro e he
        rcases List.mem_cons.1 he with rfl | he
        · first | (rw [if_pos hw1, List.length_append]; omega) | (rw [if_neg (by omega), List.length_append]; omega)
        · exact hm e (List.mem_of_mem_tail he)
      · rw [oH hE0]
        first | rw [if_pos hw1] | rw [if_neg (by omega)]
        exact (Ho.r4.swap.DX (oK (fun I a b => Ae hs hh hE hE0 b a) _)).DW.right.swap
end
end Go.Proofs.YtgndbccogcofjaaGreatDoor
end
section
namespace Go.Proofs.YtgndbccogcofjaaGreatDoor
open Go.RowKit
open _root_.Go.Proofs.Tryz
def zq (m place : Nat) (n : Int) : Nat := (((place : Int) + n) % (m : Int)).toNat
theorem QO {m place : Nat} {n : Int} (h : 0 < m) : zq m place n < m := by
  unfold zq
  have h1 := Int.emod_nonneg ((place : Int) + n) (show (m : Int) ≠ 0 by omega)
  have h2 := Int.emod_lt_of_pos ((place : Int) + n) (show (0 : Int) < m by omega)
  omega
theorem F7 (a : Int) {m : Int} (h : 0 < m) : -m < a.tmod m ∧ a.tmod m < m := by
  have h2 := Int.tmod_lt_of_pos a h
  have h3 := Int.tmod_lt_of_pos (-a) h
  rw [Int.neg_tmod] at h3
  omega
theorem EM (a m : Int) : a.tmod m % m = a % m := by
  rw [Int.tmod_def]
  exact Int.sub_mul_emod_self_left a m (a.tdiv m)
theorem TN (m place : Nat) (n : Int) (h : 0 < m) : (((place : Int) + n.tmod m).tmod m + m).tmod m = (zq m place n : Int) := by
  have h1 := F7 ((place : Int) + n.tmod m) (show (0 : Int) < m by omega)
  have h2 := Int.emod_nonneg ((place : Int) + n) (show (m : Int) ≠ 0 by omega)
  unfold zq
  rw [Int.toNat_of_nonneg h2, Int.tmod_eq_emod_of_nonneg (by omega), Int.add_emod_right, EM, Int.add_emod, EM, ← Int.add_emod]
section
variable {w0 w : World} {F : HP} {p place : Nat} {E : List (List Int)} {v : Value} {l : List Int} {way : Int}
theorem Ec (H : aB w0 w (bY p E place • F)) (hr : gW w0 F .i32 v l) :
    fO prog 233 #[.pointer (some ⟨p, 0, none⟩), .int .i64 way, v] w fun v' w' => v' = .int .i64 (vN E place way l).1 ∧ aB w0 w' (bY p (vN E place way l).2.1 (vN E place way l).2.2 • F) := by
  unfold vN
  by_cases h1 : way < 0 ∨ 2 < way
  · simp only [h1, if_true]; exact D9 H hr h1
  · simp only [h1, if_false]
    by_cases h2 : 1024 < l.length
    · simp only [h2, if_true]; exact CG H hr (by omega) h2
    · simp only [h2, if_false]
      by_cases h3 : way ≠ 0 ∧ 0 < E.length
      · rw [if_pos h3]
        by_cases h4 : 1024 < l.length + (E.getD 0 []).length
        · rw [if_pos h4]; exact Eb H hr (by omega) (by omega) h3.2 h4
        · rw [if_neg h4]; exact CJ H hr (by omega) h3.2 (by omega)
      · rw [if_neg h3]
        by_cases h5 : way = 0 ∧ l.length = 0
        · rw [if_pos h5]; obtain ⟨rfl, h6⟩ := h5; exact yF H hr h6
        · rw [if_neg h5]; exact Ea H hr (by omega) (by omega) (by omega) h5
theorem zu {n : Int} (H : aB w0 w (bY p [] place • F)) :
  fO prog 101 #[.pointer (some ⟨p, 0, none⟩), .int .i64 n] w fun v' w' => v' = .tuple #[.slice none 0 0, .int .i64 6] ∧ aB w0 w' (bY p [] place • F) := by
 obtain ⟨s, h, hs, hh, hE, hp, hm, ho, H1⟩ := H.ring
 have hb := H1.get.2
 refine gB func101 ntmps101 ?_
 dsimp only [bf, Nat.reduceAdd]
 refine ay (ah (aV rfl (aV rfl (aA (aj (ay (bC (ay (ah (aN rfl (bZ rfl func177 (iy _ hb uh) ?_)))))))))))
 rintro _ _ ⟨rfl, rfl⟩
 refine aV rfl (aA (aj (nN (ay (ah (aN rfl (bP rfl (bF 62 underlying170 rfl sizeOf3 rfl (dV underlying3 rfl hb (jv hs) (aX (dO rfl rfl) (aV rfl (aA (aj (aO rfl (fun h1 => ?_) (fun h => by exfalso; (try simp only [aH] at h); first | contradiction | omega | (simp at h <;> omega))))))))))))))))
 (try simp only [aH] at h1)
 refine ay (ah (aV rfl (aV rfl (aA (aj (aJ (aW (aK (lH (.inl rfl) results101 rfl rfl ?_)))))))))
 exact ⟨rfl, H⟩
theorem AB {n : Int} (H : aB w0 w (bY p E place • F)) (h0 : 0 < E.length) :
  fO prog 101 #[.pointer (some ⟨p, 0, none⟩), .int .i64 n] w fun v' w' => ∃ u, v' = .tuple #[u, .int .i64 0] ∧
   aB w0 w' (iU 21 .i32 u (E.getD (zq E.length place n) []) • bY p E (zq E.length place n) • F) := by
 obtain ⟨s, h, hs, hh, hE, hp, hm, ho, H⟩ := H.ring
 have hb := H.get.2
 have hlt := QO (place := place) (n := n) h0
 have X3 := TN E.length place n h0
 have hb1 := F7 n (show (0 : Int) < E.length by omega)
 have hb2 := F7 ((place : Int) + n.tmod E.length) (show (0 : Int) < E.length by omega)
 refine gB func101 ntmps101 ?_
 dsimp only [bf, Nat.reduceAdd]
 refine ay (ah (aV rfl (aV rfl (aA (aj (ay (bC (ay (ah (aN rfl (bZ rfl func177 (iy _ hb uh) ?_)))))))))))
 rintro _ _ ⟨rfl, rfl⟩
 refine aV rfl (aA (aj (nN (ay (ah (aN rfl (bP rfl (bF 62 underlying170 rfl sizeOf3 rfl (dV underlying3 rfl hb (jv hs) (aX (dO rfl rfl) (aV rfl (aA (aj (aO rfl (fun h => by exfalso; (try simp only [aH] at h); first | contradiction | omega | (simp at h <;> omega)) (fun h1 => ?_)))))))))))))))
 (try simp only [aH] at h1)
 refine aP (aQ (aj (ay ?_)))
 refine jT (n := 30) [0, 1, 2, 3, 4, 5, 6, 7, 8, 9, 10, 11, 12, 13, 14, 15, 16, 17, 18, 19, 20, 21, 22, 23, 24, 25, 26, 27, 28, 29] (fun W => W.heap = w.heap) (by kernel_rfl) (by kernel_rfl) rfl ?_
 have hS0 : (fun W => W.heap = w.heap) (w.drew) := rfl
 have Xj := H.drew
 refine iF 0 rfl hS0 rfl (iF 1 rfl hS0 rfl (jQ 2 rfl hS0 rfl (gV 3 rfl hS0 63 underlying170 rfl sizeOf3 rfl ?_)))
 refine jk 4 rfl hS0 (fun W hW => jP underlying3 rfl (by rw [hW]; exact hb) (CB hs)) ?_
 refine iF 5 rfl hS0 rfl (iF 6 rfl hS0 rfl (jQ 7 rfl hS0 rfl (gV 8 rfl hS0 62 underlying170 rfl sizeOf3 rfl ?_)))
 refine jk 9 rfl hS0 (fun W hW => jP underlying3 rfl (by rw [hW]; exact hb) (jv hs)) ?_
 refine jg 10 rfl hS0 (fun _ => Jo rfl rfl (by omega)) (jg 11 rfl hS0 (fun _ => gy rfl rfl (by omega)) (iF 12 rfl hS0 rfl (jQ 13 rfl hS0 rfl (gV 14 rfl hS0 62 underlying170 rfl sizeOf3 rfl ?_))))
 refine jk 15 rfl hS0 (fun W hW => jP underlying3 rfl (by rw [hW]; exact hb) (jv hs)) ?_
 refine jg 16 rfl hS0 (fun _ => Jo rfl rfl (by omega)) (iF 17 rfl hS0 rfl (jQ 18 rfl hS0 rfl (gV 19 rfl hS0 62 underlying170 rfl sizeOf3 rfl ?_)))
 refine jk 20 rfl hS0 (fun W hW => jP underlying3 rfl (by rw [hW]; exact hb) (jv hs)) ?_
 refine jg 21 rfl hS0 (fun _ => gy rfl rfl (by omega)) (iF 22 rfl hS0 rfl (jQ 23 rfl hS0 rfl (gV 24 rfl hS0 62 underlying170 rfl sizeOf3 rfl ?_)))
 refine jk 25 rfl hS0 (fun W hW => jP underlying3 rfl (by rw [hW]; exact hb) (jv hs)) ?_
 refine jg 26 rfl hS0 (fun _ => Jo rfl rfl (by omega)) (jQ 27 rfl hS0 rfl (gV 28 rfl hS0 63 underlying170 rfl sizeOf3 rfl ?_))
 refine fU 29 rfl (by kernel_rfl) (dA Xj sizeOf3 rfl rfl rfl (by rw [iq hs]; decide)) ?_
 rintro _ w2 H2
 rw [X3, iD hs] at H2
 refine BG (by kernel_rfl) ?_
 refine pO (aj (ay (ah (aN rfl (aN rfl (bP rfl (bF 63 underlying170 rfl sizeOf3 rfl (dV underlying3 rfl H2.get.2 (CB hs) (bZ rfl func179 (oO hs hh (by omega) H2.get.2) ?_)))))))))
 rintro _ w3 ⟨rfl, hD2⟩
 have H3 := H2.kV hD2
 refine Jm (xB (zf rfl func178 rfl rfl) (lS H3 (fun W HW => HW.right.vM (i := zq E.length place n) hlt) (by have := hm (E.getD (zq E.length place n) []) (by rw [List.getD_eq_getElem?_getD, List.getElem?_eq_getElem hlt]; simp); omega))) (oW rfl) ?_
 rintro u w4 H4
 refine aV rfl (aV rfl (aA (aj (aJ (lH (.inl rfl) results101 rfl rfl ?_)))))
 exact ⟨u, rfl, (aB.mJ hs hh hE (.inl hlt) hm ho H4.d3).swap⟩
theorem CO (H : aB w0 w (bY p [] place • F)) :
  fO prog 205 #[.pointer (some ⟨p, 0, none⟩)] w fun v' w' => v' = .tuple #[.slice none 0 0, .int .i64 6] ∧ aB w0 w' (bY p [] place • F) := by
 refine gB func205 ntmps205 ?_
 dsimp only [bf, Nat.reduceAdd]
 refine ay (ah (aV rfl (aV rfl (aA (aj (ay (ah (aN rfl (bZ rfl func101 (zu H) ?_)))))))))
 rintro _ w1 ⟨rfl, H1⟩
 refine AZ rfl rfl (AZ rfl rfl (aV rfl (aV rfl (aA (aj (aJ (lH (.inl rfl) results205 rfl rfl ?_)))))))
 exact ⟨rfl, H1⟩
theorem MV {m place : Nat} (h : place < m) : zq m place 0 = place := by
  unfold zq
  rw [Int.add_zero, Int.emod_eq_of_lt (by omega) (by omega)]
  omega
theorem Ed (H : aB w0 w (bY p E place • F)) (h0 : 0 < E.length) :
  fO prog 205 #[.pointer (some ⟨p, 0, none⟩)] w fun v' w' => ∃ u, v' = .tuple #[u, .int .i64 0] ∧
   aB w0 w' (iU 21 .i32 u (E.getD place []) • bY p E place • F) := by
 obtain ⟨s, h, hs, hh, hE, hp, hm, ho, H1⟩ := H.ring
 have hpl : zq E.length place 0 = place := MV (by omega)
 refine gB func205 ntmps205 ?_
 dsimp only [bf, Nat.reduceAdd]
 refine ay (ah (aV rfl (aV rfl (aA (aj (ay (ah (aN rfl (bZ rfl func101 (AB H h0) ?_)))))))))
 rintro _ w1 ⟨u, rfl, H1⟩
 refine AZ rfl rfl (AZ rfl rfl (aV rfl (aV rfl (aA (aj (aJ (lH (.inl rfl) results205 rfl rfl ?_)))))))
 rw [hpl] at H1; exact ⟨u, rfl, H1⟩
theorem aB.MW {s : List Value} {h : Nat} (H : aB w0 w (uj s h E • F)) : aB w0 w (uj s h E • uj s h E • F) := H.Bl
theorem MX {s : List Value} {h n p : Nat} (ho : ∀ v ∈ s, v.oneCell' = true) : ∀ v ∈ (bM s h n p).toList, v.oneCell' = true := by
  intro v hv
  simp [bM] at hv
  rcases hv with rfl | hv | rfl | rfl | rfl <;> first | rfl | exact ho v hv
theorem CP (H : aB w0 w (bY p E place • F)) :
  fO prog 99 #[.pointer (some ⟨p, 0, none⟩)] w fun v' w' => ∃ q, v' = .pointer (some ⟨q, 0, none⟩) ∧ aB w0 w' (bY q E place • bY p E place • F) := by
 obtain ⟨s, h, hs, hh, hE, hp, hm, ho, H⟩ := H.ring
 have hb := H.get.2
 refine gB func99 ntmps99 ?_
 dsimp only [bf, Nat.reduceAdd]
 refine ay (ah (aV rfl (aA (aj (ay (ay (ah (aN rfl (bZ rfl func177 (iy _ hb uh) ?_)))))))))
 rintro _ _ ⟨rfl, rfl⟩
 refine aA (aj (nN (aP (aj (ay (ah (aN rfl (bP rfl (aX (bW underlying170 rfl sizeOf170 (iq hs) rfl hb) (jh (qP H zeroValue170) ?_))))))))))
 rintro _ w2 ⟨b2, rfl, H2⟩
 refine aG (dh H2 sizeOf170 (iq hs) rfl rfl rfl (MX ho)) ?_
 rintro _ w3 H3
 refine aA (aj (ay (ah (aV rfl (aA (aj (aJ (aI (.inl rfl) results99 rfl ?_))))))))
 exact ⟨_, rfl, aB.mJ hs hh hE hp hm ho (aB.mJ hs hh hE hp hm ho (H3.DW.MW.r4)).swap.DW⟩
end
end Go.Proofs.YtgndbccogcofjaaGreatDoor
end
section
namespace Go.Proofs.YtgndbccogcofjaaGreatDoor
open Go.RowKit
open _root_.Go.Proofs.Tryz
section
variable {w0 w : World} {F : HP} {p place : Nat} {E : List (List Int)}
theorem JE (H : aB w0 w (bY p E place • F)) : E.length ≤ 60 ∧ (place < E.length ∨ place = 0) ∧ ∀ e ∈ E, e.length ≤ 1024 := by
  obtain ⟨s, h, hs, hh, hE, hpl, hE2, hs1, H1⟩ := H.ring
  exact ⟨hE, hpl, hE2⟩
theorem Ee (H : aB w0 w (bY p E place • F)) : fO prog 205 #[.pointer (some ⟨p, 0, none⟩)] w fun v w' => ∃ u, v = .tuple #[u, .int .i64 (if E.length = 0 then 6 else 0)] ∧ aB w0 w' (iU 21 .i32 u (E.getD place []) • bY p E place • F) := by
  by_cases h0 : E.length = 0
  · obtain rfl := List.eq_nil_of_length_eq_zero h0
    exact (CO H).mono fun v w' h => ⟨_, h.1, h.2.jo none⟩
  · rw [if_neg h0]
    exact (Ed H (by omega)).mono fun v w' h => h
end
end Go.Proofs.YtgndbccogcofjaaGreatDoor
end
section
namespace Go.Proofs.YtgndbccogcofjaaGreatDoor
open Go.RowKit
def uS (I : Hp) (k : IntKind) (vs : List Value) (ls : List (List Int)) : Prop := vs.length = ls.length ∧ ∀ j, j < ls.length → wO I k (vs.getD j undef) (ls.getD j [])
def VG (k : IntKind) (vs : List Value) (ls : List (List Int)) : HP := know (fun I => uS I k vs ls) fun _ _ hl h => ⟨h.1, fun j hj => (h.2 j hj).mono hl⟩
def LL (e : TypeId) (k : IntKind) (v : Value) (ls : List (List Int)) : HP := rD fun vs => Row e 1 v ls.length vs • VG k vs ls
theorem oI {α : Type _} {l m : List α} {j : Nat} {d : α} (h : j < l.length) : (l ++ m).getD j d = l.getD j d := by simp [List.getD_eq_getElem?_getD, List.getElem?_append_left h]
theorem mM {α : Type _} {l m : List α} {j : Nat} {d : α} (h : l.length ≤ j) : (l ++ m).getD j d = m.getD (j - l.length) d := by simp [List.getD_eq_getElem?_getD, List.getElem?_append_right h]
theorem EN {α : Type _} {l : List α} {i j : Nat} {d : α} : (l.drop i).getD j d = l.getD (i + j) d := by simp [List.getD_eq_getElem?_getD]
theorem zx {α : Type _} {l : List α} {i j : Nat} {d : α} (h : j < i) : (l.take i).getD j d = l.getD j d := by simp [List.getD_eq_getElem?_getD, List.getElem?_take, h]
theorem sH {α : Type _} {l : List α} {j : Nat} {d : α} (h : j < l.length) : l.getD j d ∈ l := by rw [List.getD_eq_getElem?_getD, List.getElem?_eq_getElem h]; exact List.getElem_mem h
theorem uS.app {I : Hp} {k : IntKind} {vs us : List Value} {ls ms : List (List Int)} (h : uS I k vs ls) (g : uS I k us ms) : uS I k (vs ++ us) (ls ++ ms) := by
  refine ⟨by simp [h.1, g.1], fun j hj => ?_⟩
  by_cases hl : j < ls.length
  · rw [oI (by rw [h.1]; exact hl), oI hl]; exact h.2 j hl
  · have hj' : j - ls.length < ms.length := by simp at hj; omega
    rw [mM (by rw [h.1]; omega), mM (by omega), h.1]; exact g.2 _ hj'
theorem uS.drop {I : Hp} {k : IntKind} {vs : List Value} {ls : List (List Int)} (h : uS I k vs ls) (i : Nat) : uS I k (vs.drop i) (ls.drop i) := by
  refine ⟨by simp [h.1], fun j hj => ?_⟩
  rw [EN, EN]
  exact h.2 _ (by simp at hj; omega)
theorem uS.take {I : Hp} {k : IntKind} {vs : List Value} {ls : List (List Int)} (h : uS I k vs ls) (i : Nat) : uS I k (vs.take i) (ls.take i) := by
  refine ⟨by simp [h.1], fun j hj => ?_⟩
  simp at hj
  rw [zx (by omega), zx (by omega)]
  exact h.2 _ (by omega)
theorem wO.one {I : Hp} {k : IntKind} {v : Value} {l : List Int} (h : wO I k v l) : uS I k [v] [l] := ⟨rfl, fun j hj => by
  obtain rfl : j = 0 := by simp at hj; omega
  exact h⟩
theorem wO.Ox {I : Hp} {k : IntKind} {v : Value} {l : List Int} (h : wO I k v l) : v.oneCell' = true := by obtain ⟨a, c, rfl, _⟩ := h; rfl
section
variable {w0 w : World} {F : HP} {e : TypeId} {k : IntKind} {v : Value} {vs us : List Value} {ls ms : List (List Int)} {l : List Int}
theorem Rd.VH {n : Nat} {xs : List Value} (hr : Rd w 1 v n xs) {i : Nat} (h : i ≤ n) : Rd w 1 (lZ 1 0 i v) i (xs.take i) := by
  have h1 := hr.cut (Nat.zero_le i) h
  simpa using h1
end
end Go.Proofs.YtgndbccogcofjaaGreatDoor
end
section
namespace Go.Proofs.YtgndbccogcofjaaGreatDoor
open Go.RowKit
theorem Oy {α : Type _} {enc : α → List Value} {sz : Nat} (he : ∀ a, (enc a).length = sz) (l : List α) : (l.flatMap enc).length = l.length * sz := by
  induction l with
  | nil => simp
  | cons a l ih => simp [he, ih, Nat.add_mul, Nat.add_comm]
theorem nZ {α : Type _} {enc : α → List Value} {sz : Nat} (he : ∀ a, (enc a).length = sz) {l : List α} {k : Nat} (hk : k < l.length) (d : α) : ((l.flatMap enc).drop (k * sz)).take sz = enc (l.getD k d) := by
  have h1 : l = l.take k ++ l.getD k d :: l.drop (k + 1) := by
    rw [List.getD_eq_getElem?_getD, List.getElem?_eq_getElem hk]
    simp
  have h2 : ((l.take k).flatMap enc).length = k * sz := by rw [Oy he, List.length_take, Nat.min_eq_left (by omega)]
  conv => lhs; rw [h1]
  rw [List.flatMap_append, List.drop_append, h2]
  simp [h2, List.take_append, he]
theorem kJ {P : Program} {L : List (Nat × Value)} {w : World} {ty : TypeId} {x : Operand} {t : TypeId} {d : TypeDesc} {b o n c sz n' k : Nat} {xs ys : List Value} (hr : Rd w sz (.slice (some ⟨b, o, none⟩) n c) n' xs) (hk : k < n') (hu : P.underlying t = some d) (hd : FC d = true) (hs : ∀ w, (sizeOf t).run P w = .ok sz w)
    (hx : ev L x = some (.pointer (some ⟨b, o + (k : Int).toNat * sz, none⟩))) (hy : (xs.drop (k * sz)).take sz = ys) (hl : ys.length = sz) : Val P L (.load t x) ty w (.agg ys.toArray) w :=
  tX (by rw [hu]; rfl) (EC hu hd) hs hl hx (fun j u hj => by
    have hjl : j < sz := by rw [← hl]; exact (List.getElem?_eq_some_iff.1 hj).1
    rw [hr.atS hk hjl, List.getD_eq_getElem?_getD]
    rw [← hy, List.getElem?_take, if_pos hjl, List.getElem?_drop] at hj
    rw [hj]; rfl)
end Go.Proofs.YtgndbccogcofjaaGreatDoor
end
