import Derived.Test.YtddekefihgejoaaGreatDoorZ2
import Derived.Test.YtddekefihgejoaaGreatDoorZ5
import Derived.Test.YtddekefihgejoaaGreatDoorZ4
set_option linter.unusedSimpArgs false
set_option linter.unusedVariables false
/- Texts of mine, joined, their names in short: Ring Ring2 Ring3 RingAny UList Range UList2. -/
section
namespace Go.Proofs.YtddekefihgejoaaGreatDoor
open Go.RowKit
open _root_.Go.Proofs.Tryz
def eH (s : List Value) (h n p : Nat) : Array Value := (Value.bool true :: (s ++ [.int .i64 h, .int .i64 n, .int .i64 p])).toArray
section
variable {s : List Value} {h n p : Nat}
theorem AX (hs : s.length = 60) : (eH s h n p).size = 64 := by simp [eH, hs]
theorem Hl : (eH s h n p)[0]? = some (.bool true) := by simp [eH]
theorem O6 (hs : s.length = 60) {i : Nat} (hi : i < 60) : (eH s h n p)[1 + i]? = some (s.getD i undef) := by
  simp [eH, Nat.add_comm 1 i, List.getElem?_append_left (show i < s.length by omega), List.getD_eq_getElem?_getD, show i < s.length by omega]
theorem O7 (hs : s.length = 60) : (eH s h n p)[61]? = some (.int .i64 h) := by simp [eH, hs]
theorem oZ (hs : s.length = 60) : (eH s h n p)[62]? = some (.int .i64 n) := by simp [eH, hs]
theorem Ec (hs : s.length = 60) : (eH s h n p)[63]? = some (.int .i64 p) := by simp [eH, hs]
theorem Ed (hs : s.length = 60) (x : Nat) : (eH s h n p).setIfInBounds 63 (.int .i64 x) = eH s h n x := by
  apply Array.ext'; simp [eH, List.set_append, hs]
end
def Yq (I : Hp) (s : List Value) (h : Nat) (E : List (List Int)) : Prop := ∀ i, i < E.length → yj I .i32 (s.getD ((h + i) % 60) undef) (E.getD i [])
def wz (s : List Value) (h : Nat) (E : List (List Int)) : HP := know (fun I => Yq I s h E) fun _ _ hl hk i hi => (hk i hi).mono hl
def eu (p : Nat) (E : List (List Int)) (place : Nat) : HP := qC fun (x : List Value × Nat) =>
  fact (x.1.length = 60 ∧ x.2 < 60 ∧ E.length ≤ 60 ∧ (place < E.length ∨ place = 0) ∧ (∀ e ∈ E, e.length ≤ 1024) ∧ ∀ v ∈ x.1, v.oneCell' = true) • cO p (.cells (eH x.1 x.2 E.length place) 193 (0, 0)) • wz x.1 x.2 E
section
variable {w0 w : World} {F : HP} {p place : Nat} {E : List (List Int)}
theorem aA.ring (H : aA w0 w (eu p E place • F)) : ∃ s h, s.length = 60 ∧ h < 60 ∧ E.length ≤ 60 ∧ (place < E.length ∨ place = 0) ∧ (∀ e ∈ E, e.length ≤ 1024) ∧ (∀ v ∈ s, v.oneCell' = true) ∧ aA w0 w (cO p (.cells (eH s h E.length place) 193 (0, 0)) • wz s h E • F) := by
  obtain ⟨⟨s, h⟩, H⟩ := H.kU
  obtain ⟨⟨h1, h2, h3, h4, h5, h6⟩, H⟩ := H.flat.fact
  exact ⟨s, h, h1, h2, h3, h4, h5, h6, H.flat⟩
theorem aA.Dl {s : List Value} {h : Nat} (h1 : s.length = 60) (h2 : h < 60) (h3 : E.length ≤ 60) (h4 : place < E.length ∨ place = 0) (h5 : ∀ e ∈ E, e.length ≤ 1024) (h6 : ∀ v ∈ s, v.oneCell' = true) (H : aA w0 w (cO p (.cells (eH s h E.length place) 193 (0, 0)) • wz s h E • F)) : aA w0 w (eu p E place • F) :=
  aA.gY (s, h) (aA.deep (aA.jU ⟨h1, h2, h3, h4, h5, h6⟩ H.deep))
theorem Ho (H : aA w0 w F) : fQ prog 78 #[] w fun v w' => ∃ p, v = .pointer (some ⟨p, 0, none⟩) ∧ aA w0 w' (eu p [] 0 • F) := by
 refine iw func78 ntmps78 ?_
 dsimp only [aZ, Nat.reduceAdd]
 refine ay (ah (aW rfl (aB (aj (ay (ah (aU (fJ (pl := #[(0, 1), (1, 60), (61, 1), (62, 1), (63, 1)]) (eH (List.replicate 60 (.slice none 0 0)) 0 0 0) underlying193 zeroValue193 (fun w => by kernel_rfl) rfl (by kernel_rfl)) (gB (I9 H rfl) ?_))))))))
 rintro _ w1 ⟨b1, rfl, H1⟩
 refine aW rfl (aB (aj (aN (aT (.inl rfl) results78 rfl ?_))))
 refine ⟨b1, rfl, aA.Dl (s := List.replicate 60 (.slice none 0 0)) (h := 0) (by simp) (by omega) (by simp) (.inr rfl) (by simp) (by intro v hv; rw [List.eq_of_mem_replicate hv]; rfl) ?_⟩
 exact aA.swap (aA.xR (fun I i hi => by simp at hi) H1)
theorem pK (t : TypeId) {cs : Array Value} {fr : Nat × Nat} {m : Bool} (hb : w.heap[p]? = some (.cells cs t fr)) (h0 : cs[0]? = some (.bool m)) :
  fQ prog 158 #[.pointer (some ⟨p, 0, none⟩)] w fun v w' => v = .bool (!m) ∧ w = w' := by
 refine iw func158 ntmps158 ?_
 dsimp only [aZ, Nat.reduceAdd]
 refine ay (ah (aW rfl (aB (aj (ay (ah (aP rfl (aU (fO underlying60 rfl rfl) (jL rfl (fun h => by exfalso; (try simp only [aG] at h); simp at h) (fun h1 => ?_))))))))))
 (try simp only [aG] at h1)
 refine bn (aP rfl (bn (bT rfl (bn (bf 0 underlying193 rfl sizeOf4 rfl (bn (dA underlying4 rfl hb h0 (bn (aU (jT rfl) (jd rfl rfl (aW rfl (aB (aj (aN (aT (.inl rfl) results158 rfl ?_)))))))))))))))
 exact ⟨rfl, rfl⟩
theorem aA.QZ {s : List Value} {h i : Nat} (H : aA w0 w (wz s h E • F)) (hi : i < E.length) : iI w .i32 (s.getD ((h + i) % 60) undef) (E.getD i []) := let ⟨I, k, hI⟩ := H.qU; (k i hi).rd hI
theorem JC {s : List Value} {h n m : Nat} {t : TypeId} {fr : Nat × Nat} {k : Nat} (hs : s.length = 60) (hh : h < 60) (hk : k < 60) (hb : w.heap[p]? = some (.cells (eH s h n m) t fr)) :
  fQ prog 159 #[.pointer (some ⟨p, 0, none⟩), .int .i64 k] w fun v w' => v = s.getD ((h + k) % 60) undef ∧ lS w w' := by
 refine iw func159 ntmps159 ?_
 dsimp only [aZ, Nat.reduceAdd]
 refine ay (ah (aW rfl (aB (aj (ay ?_)))))
 refine kX (n := 13) [0, 1, 2, 3, 4, 5, 6, 7, 8, 9, 10, 11, 12] (fun W => W.heap = w.heap) (by kernel_rfl) (by kernel_rfl) rfl ?_
 have hS0 : (fun W => W.heap = w.heap) (w.drew) := rfl
 refine fU 0 rfl hS0 rfl (fU 1 rfl hS0 rfl (iZ 2 rfl hS0 rfl (dU 3 rfl hS0 61 underlying193 rfl sizeOf3 rfl ?_)))
 refine gG 4 rfl hS0 (fun W hW => iF underlying3 rfl (by rw [hW]; exact hb) (O7 hs)) ?_
 refine fU 5 rfl hS0 rfl (gZ 6 rfl hS0 (fun _ => dR rfl rfl (by omega)) ?_)
 refine gZ 7 rfl hS0 (fun _ => XR rfl rfl (by omega) (by  omega)) ?_
 refine iZ 8 rfl hS0 rfl (dU 9 rfl hS0 1 underlying193 rfl sizeOf191 rfl (gZ 10 rfl hS0 (fun _ => wX underlying191 sizeOf23 rfl rfl (by omega)) ?_))
 refine gG 11 rfl hS0 (fun W hW => iF underlying23 rfl (by rw [hW]; exact hb) (by rw [show (1 + (((h : Int) + (k : Int)) % 60).toNat * 1) = 1 + (h + k) % 60 from by omega]; exact O6 hs (by omega))) ?_
 refine gZ 12 rfl hS0 (fun _ => eX rfl) (mD (aj (aN (aT (.inl rfl) results159 rfl ?_))))
 exact ⟨rfl, ⟨1, rfl⟩⟩
theorem Hr (H : aA w0 w (eu p E place • F)) : fQ prog 114 #[.pointer (some ⟨p, 0, none⟩)] w fun v w' => v = .int .i64 E.length ∧ w = w' := by
 obtain ⟨s, h, hs, hh, hE, hp, hm, ho, H1⟩ := H.ring
 have hb := H1.get.2
 refine iw func114 ntmps114 ?_
 dsimp only [aZ, Nat.reduceAdd]
 refine ay (ah (aW rfl (aB (aj (ay (ay (ah (aP rfl (dD rfl func158 (pK _ hb Hl) ?_)))))))))
 rintro _ _ ⟨rfl, rfl⟩
 refine aB (aj (pW (aQ (aj (ay (ah (aP rfl (bT rfl (bf 62 underlying193 rfl sizeOf3 rfl (dA underlying3 rfl hb (oZ hs) (aW rfl (aB (aj (aN (aT (.inl rfl) results114 rfl ?_)))))))))))))))
 exact ⟨rfl, rfl⟩
end
end Go.Proofs.YtddekefihgejoaaGreatDoor
end
section
namespace Go.Proofs.YtddekefihgejoaaGreatDoor
open Go.RowKit
def Yr (E : List (List Int)) (place : Nat) (way : Int) (l : List Int) : Int × List (List Int) × Nat :=
  if way < 0 ∨ 2 < way then (1, E, place)
  else if 1024 < l.length then (3, E, place)
  else if way ≠ 0 ∧ 0 < E.length then
    if 1024 < l.length + (E.getD 0 []).length then (3, E, place)
    else (0, (if way = 1 then E.getD 0 [] ++ l else l ++ E.getD 0 []) :: E.tail, 0)
  else if way = 0 ∧ l.length = 0 then (0, E, place)
  else (0, (l :: E).take 60, 0)
section
variable {w0 w : World} {F : HP} {p place : Nat} {E : List (List Int)} {v : Value} {l : List Int} {way : Int}
end
end Go.Proofs.YtddekefihgejoaaGreatDoor
end
section
namespace Go.Proofs.YtddekefihgejoaaGreatDoor
open Go.RowKit
open _root_.Go.Proofs.Tryz
def AY (m place : Nat) (n : Int) : Nat := (((place : Int) + n) % (m : Int)).toNat
theorem UC {m place : Nat} {n : Int} (h : 0 < m) : AY m place n < m := by
  unfold AY
  have h1 := Int.emod_nonneg ((place : Int) + n) (show (m : Int) ≠ 0 by omega)
  have h2 := Int.emod_lt_of_pos ((place : Int) + n) (show (0 : Int) < m by omega)
  omega
theorem Ht (a : Int) {m : Int} (h : 0 < m) : -m < a.tmod m ∧ a.tmod m < m := by
  have h2 := Int.tmod_lt_of_pos a h
  have h3 := Int.tmod_lt_of_pos (-a) h
  rw [Int.neg_tmod] at h3
  omega
theorem Gg (a m : Int) : a.tmod m % m = a % m := by
  rw [Int.tmod_def]
  exact Int.sub_mul_emod_self_left a m (a.tdiv m)
theorem Ws (m place : Nat) (n : Int) (h : 0 < m) : (((place : Int) + n.tmod m).tmod m + m).tmod m = (AY m place n : Int) := by
  have h1 := Ht ((place : Int) + n.tmod m) (show (0 : Int) < m by omega)
  have h2 := Int.emod_nonneg ((place : Int) + n) (show (m : Int) ≠ 0 by omega)
  unfold AY
  rw [Int.toNat_of_nonneg h2, Int.tmod_eq_emod_of_nonneg (by omega), Int.add_emod_right, Gg, Int.add_emod, Gg, ← Int.add_emod]
section
variable {w0 w : World} {F : HP} {p place : Nat} {E : List (List Int)} {v : Value} {l : List Int} {way : Int}
theorem AZ {n : Int} (H : aA w0 w (eu p [] place • F)) :
  fQ prog 115 #[.pointer (some ⟨p, 0, none⟩), .int .i64 n] w fun v' w' => v' = .tuple #[.slice none 0 0, .int .i64 6] ∧ aA w0 w' (eu p [] place • F) := by
 obtain ⟨s, h, hs, hh, hE, hp, hm, ho, H1⟩ := H.ring
 have hb := H1.get.2
 refine iw func115 ntmps115 ?_
 dsimp only [aZ, Nat.reduceAdd]
 refine ay (ah (aW rfl (aW rfl (aB (aj (ay (aY (ay (ah (aP rfl (dD rfl func158 (pK _ hb Hl) ?_)))))))))))
 rintro _ _ ⟨rfl, rfl⟩
 refine aW rfl (aB (aj (pW (ay (ah (aP rfl (bT rfl (bf 62 underlying193 rfl sizeOf3 rfl (dA underlying3 rfl hb (oZ hs) (aU (iQ rfl rfl) (aW rfl (aB (aj (aO rfl (fun h1 => ?_) (fun h => by exfalso; (try simp only [aG] at h); first | contradiction | omega | (simp at h <;> omega))))))))))))))))
 (try simp only [aG] at h1)
 refine ay (ah (aW rfl (aW rfl (aB (aj (aN (aX (aK (gQ (.inl rfl) results115 rfl rfl ?_)))))))))
 exact ⟨rfl, H⟩
theorem CY {n : Int} (H : aA w0 w (eu p E place • F)) (h0 : 0 < E.length) :
  fQ prog 115 #[.pointer (some ⟨p, 0, none⟩), .int .i64 n] w fun v' w' => ∃ u, v' = .tuple #[u, .int .i64 0] ∧
   aA w0 w' (gW 21 .i32 u (E.getD (AY E.length place n) []) • eu p E (AY E.length place n) • F) := by
 obtain ⟨s, h, hs, hh, hE, hp, hm, ho, H⟩ := H.ring
 have hb := H.get.2
 have hlt := UC (place := place) (n := n) h0
 have aam := Ws E.length place n h0
 have hb1 := Ht n (show (0 : Int) < E.length by omega)
 have hb2 := Ht ((place : Int) + n.tmod E.length) (show (0 : Int) < E.length by omega)
 refine iw func115 ntmps115 ?_
 dsimp only [aZ, Nat.reduceAdd]
 refine ay (ah (aW rfl (aW rfl (aB (aj (ay (aY (ay (ah (aP rfl (dD rfl func158 (pK _ hb Hl) ?_)))))))))))
 rintro _ _ ⟨rfl, rfl⟩
 refine aW rfl (aB (aj (pW (ay (ah (aP rfl (bT rfl (bf 62 underlying193 rfl sizeOf3 rfl (dA underlying3 rfl hb (oZ hs) (aU (iQ rfl rfl) (aW rfl (aB (aj (aO rfl (fun h => by exfalso; (try simp only [aG] at h); first | contradiction | omega | (simp at h <;> omega)) (fun h1 => ?_)))))))))))))))
 (try simp only [aG] at h1)
 refine aQ (aH (aj (ay ?_)))
 refine kX (n := 30) [0, 1, 2, 3, 4, 5, 6, 7, 8, 9, 10, 11, 12, 13, 14, 15, 16, 17, 18, 19, 20, 21, 22, 23, 24, 25, 26, 27, 28, 29] (fun W => W.heap = w.heap) (by kernel_rfl) (by kernel_rfl) rfl ?_
 have hS0 : (fun W => W.heap = w.heap) (w.drew) := rfl
 have ZG := H.drew
 refine fU 0 rfl hS0 rfl (fU 1 rfl hS0 rfl (iZ 2 rfl hS0 rfl (dU 3 rfl hS0 63 underlying193 rfl sizeOf3 rfl ?_)))
 refine gG 4 rfl hS0 (fun W hW => iF underlying3 rfl (by rw [hW]; exact hb) (Ec hs)) ?_
 refine fU 5 rfl hS0 rfl (fU 6 rfl hS0 rfl (iZ 7 rfl hS0 rfl (dU 8 rfl hS0 62 underlying193 rfl sizeOf3 rfl ?_)))
 refine gG 9 rfl hS0 (fun W hW => iF underlying3 rfl (by rw [hW]; exact hb) (oZ hs)) ?_
 refine gZ 10 rfl hS0 (fun _ => Ll rfl rfl (by omega)) (gZ 11 rfl hS0 (fun _ => dR rfl rfl (by omega)) (fU 12 rfl hS0 rfl (iZ 13 rfl hS0 rfl (dU 14 rfl hS0 62 underlying193 rfl sizeOf3 rfl ?_))))
 refine gG 15 rfl hS0 (fun W hW => iF underlying3 rfl (by rw [hW]; exact hb) (oZ hs)) ?_
 refine gZ 16 rfl hS0 (fun _ => Ll rfl rfl (by omega)) (fU 17 rfl hS0 rfl (iZ 18 rfl hS0 rfl (dU 19 rfl hS0 62 underlying193 rfl sizeOf3 rfl ?_)))
 refine gG 20 rfl hS0 (fun W hW => iF underlying3 rfl (by rw [hW]; exact hb) (oZ hs)) ?_
 refine gZ 21 rfl hS0 (fun _ => dR rfl rfl (by omega)) (fU 22 rfl hS0 rfl (iZ 23 rfl hS0 rfl (dU 24 rfl hS0 62 underlying193 rfl sizeOf3 rfl ?_)))
 refine gG 25 rfl hS0 (fun W hW => iF underlying3 rfl (by rw [hW]; exact hb) (oZ hs)) ?_
 refine gZ 26 rfl hS0 (fun _ => Ll rfl rfl (by omega)) (iZ 27 rfl hS0 rfl (dU 28 rfl hS0 63 underlying193 rfl sizeOf3 rfl ?_))
 refine dO 29 rfl (by kernel_rfl) (fH ZG sizeOf3 rfl rfl rfl (by rw [AX hs]; decide)) ?_
 rintro _ w2 H2
 rw [aam, Ed hs] at H2
 refine Nr (by kernel_rfl) ?_
 refine mD (aj (ay (ah (aP rfl (aP rfl (bT rfl (bf 63 underlying193 rfl sizeOf3 rfl (dA underlying3 rfl H2.get.2 (Ec hs) (dD rfl func159 (JC hs hh (by omega) H2.get.2) ?_)))))))))
 rintro _ w3 ⟨rfl, hD2⟩
 have H3 := H2.wM hD2
 refine Lj (lN (mG rfl func59 rfl rfl) (kH H3 (fun W HW => HW.right.QZ (i := AY E.length place n) hlt) (by have := hm (E.getD (AY E.length place n) []) (by rw [List.getD_eq_getElem?_getD, List.getElem?_eq_getElem hlt]; simp); omega))) (jg rfl) ?_
 rintro u w4 H4
 refine aW rfl (aW rfl (aB (aj (aN (gQ (.inl rfl) results115 rfl rfl ?_)))))
 exact ⟨u, rfl, (aA.Dl hs hh hE (.inl hlt) hm ho H4.d3).swap⟩
theorem aA.O8 {s : List Value} {h : Nat} (H : aA w0 w (wz s h E • F)) : aA w0 w (wz s h E • wz s h E • F) := H.zn
theorem O9 {s : List Value} {h n p : Nat} (ho : ∀ v ∈ s, v.oneCell' = true) : ∀ v ∈ (eH s h n p).toList, v.oneCell' = true := by
  intro v hv
  simp [eH] at hv
  rcases hv with rfl | hv | rfl | rfl | rfl <;> first | rfl | exact ho v hv
theorem xw (H : aA w0 w (eu p E place • F)) :
  fQ prog 113 #[.pointer (some ⟨p, 0, none⟩)] w fun v' w' => ∃ q, v' = .pointer (some ⟨q, 0, none⟩) ∧ aA w0 w' (eu q E place • eu p E place • F) := by
 obtain ⟨s, h, hs, hh, hE, hp, hm, ho, H⟩ := H.ring
 have hb := H.get.2
 refine iw func113 ntmps113 ?_
 dsimp only [aZ, Nat.reduceAdd]
 refine ay (ah (aW rfl (aB (aj (ay (ay (ah (aP rfl (dD rfl func158 (pK _ hb Hl) ?_)))))))))
 rintro _ _ ⟨rfl, rfl⟩
 refine aB (aj (pW (aQ (aj (ay (ah (aP rfl (bT rfl (aU (bQ underlying193 rfl sizeOf193 (AX hs) rfl hb) (gB (vS H zeroValue193) ?_))))))))))
 rintro _ w2 ⟨b2, rfl, H2⟩
 refine aI (dI H2 sizeOf193 (AX hs) rfl rfl rfl (O9 ho)) ?_
 rintro _ w3 H3
 refine aB (aj (ay (ah (aW rfl (aB (aj (aN (aT (.inl rfl) results113 rfl ?_))))))))
 exact ⟨_, rfl, aA.Dl hs hh hE hp hm ho (aA.Dl hs hh hE hp hm ho (H3.IY.O8.r4)).swap.IY⟩
end
end Go.Proofs.YtddekefihgejoaaGreatDoor
end
section
namespace Go.Proofs.YtddekefihgejoaaGreatDoor
open Go.RowKit
open _root_.Go.Proofs.Tryz
section
variable {w0 w : World} {F : HP} {p place : Nat} {E : List (List Int)}
theorem LW (H : aA w0 w (eu p E place • F)) : E.length ≤ 60 ∧ (place < E.length ∨ place = 0) ∧ ∀ e ∈ E, e.length ≤ 1024 := by
  obtain ⟨s, h, hs, hh, hE, hpl, hE2, hs1, H1⟩ := H.ring
  exact ⟨hE, hpl, hE2⟩
theorem CZ {n : Int} (H : aA w0 w (eu p E place • F)) : fQ prog 115 #[.pointer (some ⟨p, 0, none⟩), .int .i64 n] w fun v w' => ∃ u, v = .tuple #[u, .int .i64 (if E.length = 0 then 6 else 0)] ∧
    aA w0 w' (gW 21 .i32 u (if E.length = 0 then [] else E.getD (AY E.length place n) []) • eu p E (if E.length = 0 then place else AY E.length place n) • F) := by
  by_cases h0 : E.length = 0
  · obtain rfl := List.eq_nil_of_length_eq_zero h0
    simp only [List.length_nil, if_true]
    exact (AZ H).mono fun v w' h => ⟨_, h.1, h.2.iH none⟩
  · simp only [if_neg h0]
    exact (CY H (by omega)).mono fun v w' h => h
end
end Go.Proofs.YtddekefihgejoaaGreatDoor
end
section
namespace Go.Proofs.YtddekefihgejoaaGreatDoor
open Go.RowKit
open _root_.Go.Proofs.Tryz
abbrev fG := Int × List Int × List Int
def fB (G : List (List fG)) (N : List fG) : Nat := (G.map List.length).sum + N.length
def EB (e : fG) : Prop := e.2.1.length ≤ 35184372087808 ∧ e.2.2.length ≤ 35184372087808
theorem UD {N : List fG} {x : fG} (h : ∀ e ∈ N, EB e) (hx : EB x) : ∀ e ∈ N ++ [x], EB e := fun e he => by
  rcases List.mem_append.1 he with he | he
  · exact h e he
  · rw [List.mem_singleton.1 he]; exact hx
theorem JD {G : List (List fG)} {N : List fG} (h : ∀ g ∈ G, ∀ e ∈ g, EB e) (hx : ∀ e ∈ N, EB e) : ∀ g ∈ G ++ [N], ∀ e ∈ g, EB e := fun g hg => by
  rcases List.mem_append.1 hg with hg | hg
  · exact h g hg
  · rw [List.mem_singleton.1 hg]; exact hx
theorem NH {G : List (List fG)} {N : List fG} (h : ∀ g ∈ G, g ≠ []) (hx : N ≠ []) : ∀ g ∈ G ++ [N], g ≠ [] := fun g hg => by
  rcases List.mem_append.1 hg with hg | hg
  · exact h g hg
  · rw [List.mem_singleton.1 hg]; exact hx
def UE (G : List (List fG)) (N : List fG) (op : Int) : Prop := (∀ g ∈ G, g ≠ []) ∧ fB G N ≤ 16384 ∧ 0 ≤ op ∧ op ≤ 4611686018427387904 ∧ (∀ g ∈ G, ∀ e ∈ g, EB e) ∧ ∀ e ∈ N, EB e
theorem LX {G : List (List fG)} (h : ∀ g ∈ G, g ≠ []) : G.length ≤ (G.map List.length).sum := by
  induction G with
  | nil => simp
  | cons g G ih =>
    have h1 := ih fun x hx => h x (by simp [hx])
    have h2 : 0 < g.length := List.length_pos_iff.2 (h g (by simp))
    simp; omega
theorem UE.len {G : List (List fG)} {N : List fG} {op : Int} (h : UE G N op) : G.length + N.length ≤ 16384 := by
  have := LX h.1
  have := h.2.1
  unfold fB at this
  omega
def eF (p : Nat) (G : List (List fG)) (N : List fG) (op : Int) : HP := qC fun (x : Value × Value × List (Value × List dw) × List dw) =>
  fact (UE G N op ∧ x.2.2.1.map (fun g => g.2.map dw.says) = G ∧ x.2.2.2.map dw.says = N) • cO p (.cells #[x.1, x.2.1, .int .i64 op, .int .i64 (fB G N : Nat), .bool true] 233 (0, 0)) • zH x.1 x.2.2.1 • Fv x.2.1 x.2.2.2
section
variable {w0 w : World} {F : HP} {p : Nat} {G : List (List fG)} {N : List fG} {op : Int} {gv nv : Value} {gs : List (Value × List dw)} {now : List dw} {a : Int} {d z : Value} {dl il : List Int}
theorem aA.qO (H : aA w0 w (eF p G N op • F)) : ∃ gv nv gs now, UE G N op ∧ gs.map (fun g => g.2.map dw.says) = G ∧ now.map dw.says = N ∧ gs.length = G.length ∧ now.length = N.length ∧ G.length + N.length ≤ 16384 ∧
    aA w0 w (cO p (.cells #[gv, nv, .int .i64 op, .int .i64 (fB G N : Nat), .bool true] 233 (0, 0)) • Row 67 1 gv gs.length (gs.map (·.1)) • nZ gs • Row 202 3 nv now.length (now.flatMap dw.enc) • jq now • F) := by
  obtain ⟨⟨gv, nv, gs, now⟩, H⟩ := H.kU
  obtain ⟨⟨h1, h2, h3⟩, H⟩ := H.flat.fact
  refine ⟨gv, nv, gs, now, h1, h2, h3, ?_, ?_, h1.len, ?_⟩
  · rw [← h2]; simp
  · rw [← h3]; simp
  · have := H.flat
    unfold zH Fv at this
    exact this.of_eq (by ac_rfl)
theorem aA.qj (h1 : UE G N op) (h2 : gs.map (fun g => g.2.map dw.says) = G) (h3 : now.map dw.says = N) {ed : Int} (he : ed = (fB G N : Nat))
    (H : aA w0 w (cO p (.cells #[gv, nv, .int .i64 op, .int .i64 ed, .bool true] 233 (0, 0)) • zH gv gs • Fv nv now • F)) : aA w0 w (eF p G N op • F) := by
  subst he
  exact aA.gY (gv, nv, gs, now) (aA.deep (aA.jU ⟨h1, h2, h3⟩ (H.of_eq (by ac_rfl))))
theorem aA.jB (h1 : UE G N op) (h2 : gs.map (fun g => g.2.map dw.says) = G) (h3 : now.map dw.says = N) {ed : Int} (he : ed = (fB G N : Nat))
    (H : aA w0 w (cO p (.cells #[gv, nv, .int .i64 op, .int .i64 ed, .bool true] 233 (0, 0)) • Row 67 1 gv gs.length (gs.map (·.1)) • nZ gs • Row 202 3 nv now.length (now.flatMap dw.enc) • jq now • F)) : aA w0 w (eF p G N op • F) :=
  aA.qj h1 h2 h3 he (H.of_eq (by unfold zH Fv; ac_rfl))
theorem iO (H : aA w0 w (eF p G N op • F)) : fQ prog 161 #[.pointer (some ⟨p, 0, none⟩)] w fun v w' => v = .bool false ∧ w = w' := by
 refine iw func161 ntmps161 ?_
 dsimp only [aZ, Nat.reduceAdd]
 refine ay (ah (aW rfl (aB (aj (ay ?_)))))
 obtain ⟨wU, uj, jJ, jh, iR, o7, mY, Ba, Bc, FC, kT⟩ := (H).qO
 refine ah (aP rfl (aU (fO underlying187 rfl rfl) (jL rfl (fun h1 => ?_) (fun h1 => ?_))))
 ·(try simp only [aG] at h1)
  try (exfalso; first | contradiction | omega)
  all_goals
   refine bK (bK (bK (bK (bK (jP rfl rfl (aW rfl (aB (aj (aN (aT (.inl rfl) results161 rfl ?_))))))))))
   exact ⟨rfl, rfl⟩
 ·(try simp only [aG] at h1)
  try (exfalso; first | contradiction | omega)
  all_goals
   refine bn (aP rfl (bn (bT rfl (bn (bf 4 underlying233 rfl sizeOf4 rfl (bn (dA underlying4 rfl (kT).get.2 rfl (bn (aU (jT rfl) (jd rfl rfl (aW rfl (aB (aj (aN (aT (.inl rfl) results161 rfl ?_)))))))))))))))
   exact ⟨rfl, rfl⟩
theorem Hu (H : aA w0 w F) : fQ prog 163 #[] w fun v w' => ∃ p, v = .pointer (some ⟨p, 0, none⟩) ∧ aA w0 w' (eF p [] [] 0 • F) := by
 refine iw func163 ntmps163 ?_
 dsimp only [aZ, Nat.reduceAdd]
 refine ay (ah (aW rfl (aB (aj (ay (ah (aU (fJ (pl := #[(0, 4), (4, 1)]) (#[_, _, _, _, _]) underlying233 zeroValue233 (fun w => by kernel_rfl) rfl (rfl)) (gB (ig (l := [_, _, _, _, _]) H rfl rfl) ?_))))))))
 rintro _ w1 ⟨b1, rfl, H1⟩
 refine aW rfl (aB (aj (aN (aT (.inl rfl) results163 rfl ?_))))
 refine ⟨_, rfl, aA.qj (gv := .slice none 0 0) (nv := .slice none 0 0) (gs := []) (now := []) ⟨by simp, by decide, by decide, by decide, by simp, by simp⟩ rfl rfl rfl ?_⟩
 exact (((H1).pI none).zI none).of_eq (by ac_rfl)
theorem Hw (H : aA w0 w (eF p G N op • F)) : fQ prog 117 #[.pointer (some ⟨p, 0, none⟩)] w fun v w' => v = .int .i64 ((G.length : Int) + min 1 N.length) ∧ aA w0 w' (eF p G N op • F) := by
 refine iw func117 ntmps117 ?_
 dsimp only [aZ, Nat.reduceAdd]
 refine ay (ah (aW rfl (aB (aj (ay (ay (ah (aP rfl (dD rfl func161 (iO H) ?_)))))))))
 rintro _ _ ⟨rfl, rfl⟩
 refine aB (aj (pW (aQ (aj (ay ?_)))))
 obtain ⟨wU, uj, jJ, jh, iR, o7, mY, Ba, Bc, FC, kT⟩ := (H).qO
 have AQ := kT.drew
 have fD := aA.kp (AQ.f5.f5.f5.f5.f5)
 refine vJ [4, 10] fD rfl (fU 0 rfl fD rfl (iZ 1 rfl fD rfl (dU 2 rfl fD 0 underlying233 rfl sizeOf231 rfl (dU 3 rfl fD 0 underlying231 rfl sizeOf180 rfl (gG 4 rfl fD (fun W hW => iF underlying180 rfl ((Kp.h hW)).get.2 rfl) (gZ 5 rfl fD (fun _ => eY ((AQ.f2).aJ) underlying180 rfl) (fU 6 rfl fD rfl (iZ 7 rfl fD rfl (dU 8 rfl fD 0 underlying233 rfl sizeOf231 rfl (dU 9 rfl fD 1 underlying231 rfl sizeOf67 rfl (gG 10 rfl fD (fun W hW => iF underlying67 rfl ((Kp.h hW)).get.2 rfl) (gZ 11 rfl fD (fun _ => eY ((AQ.f4).aJ) underlying67 rfl) (gZ 12 rfl fD (fun _ => Qm rfl rfl) (gZ 13 rfl fD (fun _ => dR rfl rfl (by omega)) (gZ 14 rfl fD (fun _ => eX rfl) (mD (aj (aN (aT (.inl rfl) results117 rfl ?_)))))))))))))))))))
 have Js := AQ.f5.f5.f5.f5.f5
 have Jt := aA.jB iR o7 mY rfl Js
 exact ⟨by rw [Ba, Bc]; congr 1; omega, Jt⟩
theorem Ee (H : aA w0 w (eF p G N op • F)) : fQ prog 137 #[.pointer (some ⟨p, 0, none⟩)] w fun v w' => v = .int .i64 (fB G N : Nat) ∧ aA w0 w' (eF p G N op • F) := by
 refine iw func137 ntmps137 ?_
 dsimp only [aZ, Nat.reduceAdd]
 refine ay (ah (aW rfl (aB (aj (ay (ay (ah (aP rfl (dD rfl func161 (iO H) ?_)))))))))
 rintro _ _ ⟨rfl, rfl⟩
 refine aB (aj (pW (aQ (aj (ay ?_)))))
 obtain ⟨wU, uj, jJ, jh, iR, o7, mY, Ba, Bc, FC, kT⟩ := (H).qO
 refine ah (aP rfl (bT rfl (bf 0 underlying233 rfl sizeOf231 rfl (bf 3 underlying231 rfl sizeOf3 rfl (dA underlying3 rfl (kT).get.2 rfl (aW rfl (aB (aj (aN (aT (.inl rfl) results137 rfl ?_))))))))))
 have Js := kT.f5.f5.f5.f5.f5
 have Jt := aA.jB iR o7 mY rfl Js
 exact ⟨rfl, Jt⟩
theorem sK (H : aA w0 w (eF p G N op • F)) (hb : op < 4611686018427387904) : fQ prog 132 #[.pointer (some ⟨p, 0, none⟩)] w fun v w' => v = .int .i64 0 ∧ aA w0 w' (eF p G N (op + 1) • F) := by
 have hop : 0 ≤ op := by obtain ⟨gv, nv, gs, now, k1, _⟩ := H.qO; exact k1.2.2.1
 refine iw func132 ntmps132 ?_
 dsimp only [aZ, Nat.reduceAdd]
 refine ay (ah (aW rfl (aB (aj (ay (ay (ah (aP rfl (dD rfl func161 (iO H) ?_)))))))))
 rintro _ _ ⟨rfl, rfl⟩
 refine aB (aj (pW (aQ (aj (ay ?_)))))
 obtain ⟨wU, uj, jJ, jh, iR, o7, mY, Ba, Bc, FC, kT⟩ := (H).qO
 refine ah (aP rfl (bT rfl (bf 0 underlying233 rfl sizeOf231 rfl (bf 2 underlying231 rfl sizeOf3 rfl (dA underlying3 rfl (kT).get.2 rfl (aU (dR rfl rfl (by omega)) (bT rfl (bf 0 underlying233 rfl sizeOf231 rfl (bf 2 underlying231 rfl sizeOf3 rfl (aI (aS 2 (l' := [_, _, _, _, _]) kT sizeOf3 rfl rfl (by first | rfl | assumption) rfl rfl) ?_))))))))))
 rintro _ w3 H3
 refine aB (aj (ay (ah (aW rfl (aB (aj (aN (aT (.inl rfl) results132 rfl ?_))))))))
 exact ⟨rfl, aA.jB ⟨iR.1, iR.2.1, by omega, by omega, iR.2.2.2.2⟩ o7 mY rfl H3.f5.f5.f5.f5.f5⟩
def lU (G : List (List fG)) (N : List fG) (a : Int) (dl il : List Int) : Int := if dl.length + il.length = 0 ∨ a < 0 then 1 else if 16384 ≤ fB G N then 3 else 0
def LY (G : List (List fG)) (N : List fG) (op a : Int) (dl il : List Int) : List (List fG) := if lU G N a dl il = 0 then (if 0 < op then G else G ++ [[(a, dl, il)]]) else G
def LZ (G : List (List fG)) (N : List fG) (op a : Int) (dl il : List Int) : List fG := if lU G N a dl il = 0 then (if 0 < op then N ++ [(a, dl, il)] else N) else N
theorem Hy {x : fG} : fB G (N ++ [x]) = fB G N + 1 := by simp [fB]; omega
theorem JE {x : fG} : fB (G ++ [[x]]) N = fB G N + 1 := by simp [fB]; omega
theorem Ef (h : lU G N a dl il ≠ 0) : LY G N op a dl il = G := by unfold LY; rw [if_neg h]
theorem Eh (h : lU G N a dl il ≠ 0) : LZ G N op a dl il = N := by unfold LZ; rw [if_neg h]
theorem Dn (h : lU G N a dl il = 0) (ho : 0 < op) : LY G N op a dl il = G := by unfold LY; rw [if_pos h, if_pos ho]
theorem Dp (h : lU G N a dl il = 0) (ho : 0 < op) : LZ G N op a dl il = N ++ [(a, dl, il)] := by unfold LZ; rw [if_pos h, if_pos ho]
theorem Q5 (h : lU G N a dl il = 0) (ho : ¬ 0 < op) : LY G N op a dl il = G ++ [[(a, dl, il)]] := by unfold LY; rw [if_pos h, if_neg ho]
theorem Q7 (h : lU G N a dl il = 0) (ho : ¬ 0 < op) : LZ G N op a dl il = N := by unfold LZ; rw [if_pos h, if_neg ho]
theorem wB (H : aA w0 w (eF p G N op • F)) (hd : gV w0 F .i32 d dl) (hi : gV w0 F .i32 z il) (b2 : dl.length ≤ 35184372087808) (b3 : il.length ≤ 35184372087808) :
  fQ prog 133 #[.pointer (some ⟨p, 0, none⟩), X6 a d z] w fun v w' => v = .int .i64 (lU G N a dl il) ∧ aA w0 w' (eF p (LY G N op a dl il) (LZ G N op a dl il) op • F) := by
 refine iw func133 ntmps133 ?_
 dsimp only [aZ, Nat.reduceAdd]
 refine ay (ah (gB (ig (l := [_, _, _]) H rfl rfl) ?_))
 rintro _ w1 ⟨b1, rfl, H1⟩
 refine aW rfl (aB (aj (ay (ay (ah (aP rfl (dD rfl func161 (iO H1.f2) ?_)))))))
 rintro _ _ ⟨rfl, rfl⟩
 refine aB (aj (pW (aQ (aj (ay (ay (ah (bf 1 underlying202 rfl sizeOf23 rfl (dA underlying23 rfl (H1).get.2 rfl (aU (gK (hd _ (H1.right.right)) underlying23 rfl) (bf 2 underlying202 rfl sizeOf23 rfl (dA underlying23 rfl (H1).get.2 rfl (aU (gK (hi _ (H1.right.right)) underlying23 rfl) (aU (dR rfl rfl (by omega)) (aU (iQ rfl rfl) (jL rfl (fun h1 => ?_) (fun h1 => ?_)))))))))))))))))
 ·(try simp only [aG] at h1)
  refine bK (bK (bK (jP rfl rfl (aB (aj (Dj (ay (ah (aW rfl (aB (aj (aN (aK (aT (.inl rfl) results133 rfl ?_))))))))))))))
  have e : lU G N a dl il = 1 := by unfold lU; rw [if_pos (by omega)]
  rw [Ef (by rw [e]; decide), Eh (by rw [e]; decide), e]
  exact ⟨rfl, H1.right⟩
 ·(try simp only [aG] at h1)
  refine bn (bf 0 underlying202 rfl sizeOf3 rfl (bn (dA underlying3 rfl (H1).get.2 rfl (bn (aU (dV rfl rfl) (jd rfl rfl (aB (aj (aO rfl (fun h2 => ?_) (fun h2 => ?_))))))))))
  ·(try simp only [aG] at h2)
   refine ay (ah (aW rfl (aB (aj (aN (aK (aT (.inl rfl) results133 rfl ?_)))))))
   have e : lU G N a dl il = 1 := by unfold lU; rw [if_pos (by omega)]
   rw [Ef (by rw [e]; decide), Eh (by rw [e]; decide), e]
   exact ⟨rfl, H1.right⟩
  ·(try simp only [aG] at h2)
   refine aQ (aj (ay (ay ?_)))
   obtain ⟨wU, uj, jJ, jh, iR, o7, mY, Ba, Bc, FC, kT⟩ := (H1.f2).qO
   refine ah (aP rfl (bT rfl (bf 0 underlying233 rfl sizeOf231 rfl (bf 3 underlying231 rfl sizeOf3 rfl (dA underlying3 rfl (kT).get.2 rfl (aU (wW rfl rfl) (aB (aj (aO rfl (fun h3 => ?_) (fun h3 => ?_))))))))))
   ·(try simp only [aG] at h3)
    refine ay (ah (aW rfl (aB (aj (aN (aK (aT (.inl rfl) results133 rfl ?_)))))))
    have e : lU G N a dl il = 3 := by unfold lU; rw [if_neg (by omega), if_pos (by omega)]
    have Yt := kT.f5.f5.f5.f5.f5
    have Yu := aA.jB iR o7 mY rfl Yt
    rw [Ef (by rw [e]; decide), Eh (by rw [e]; decide), e]
    exact ⟨rfl, Yu.f2.right⟩
   ·(try simp only [aG] at h3)
    refine aQ (aj (ay (ah (aP rfl (bT rfl (bf 0 underlying233 rfl sizeOf231 rfl (bf 3 underlying231 rfl sizeOf3 rfl (dA underlying3 rfl (kT).get.2 rfl (aU (dR rfl rfl (by omega)) (bT rfl (bf 0 underlying233 rfl sizeOf231 rfl (bf 3 underlying231 rfl sizeOf3 rfl (aI (aS 3 (l' := [_, _, _, _, _]) kT sizeOf3 rfl rfl (by first | rfl | assumption) rfl rfl) ?_)))))))))))))
    rintro _ w7 H7
    refine aB (aj (ay (ay (ah (aP rfl (bT rfl (bf 0 underlying233 rfl sizeOf231 rfl (bf 2 underlying231 rfl sizeOf3 rfl (dA underlying3 rfl (H7).get.2 rfl (aU (gU rfl rfl) (aB (aj (aO rfl (fun h4 => ?_) (fun h4 => ?_))))))))))))))
    ·(try simp only [aG] at h4)
     have Yv := H7.drew
     have BM := aA.kp (Yv.f6.f6.f6.f6.f6.f6)
     refine vJ [5, 6] BM rfl (fU 0 rfl BM rfl (fU 1 rfl BM rfl (iZ 2 rfl BM rfl (dU 3 rfl BM 0 underlying233 rfl sizeOf231 rfl (dU 4 rfl BM 1 underlying231 rfl sizeOf67 rfl (gG 5 rfl BM (fun W hW => iF underlying67 rfl ((Kp.h hW)).get.2 rfl) (gG 6 rfl BM (fun W hW => bQ underlying202 rfl sizeOf202 rfl rfl ((Kp.h hW).f6).get.2) (jm 7 rfl (rX rfl func168 (qV Yv (fun W HW => hd _ (HW.right.right.right.right.right.right)) (fun W HW => hi _ (HW.right.right.right.right.right.right)) (by omega) (by omega))) ?_))))))))
     rintro _ w8 ⟨d8, s8, rfl, H8⟩
     have JF := aA.kp (H8.f8.f8.f8.f8.f8.f8.f8.f8)
     refine bU JF (fun W hW => (Kp.h hW).right.right.f6.f6.f6.f6.f6.f6) ?_
     refine jm 8 rfl (mP H8 underlying67 sizeOf202 zeroValue202 rfl rfl rfl (by decide) (by decide)) ?_
     rintro l9 w9 H9
     have Q8 := aA.kp (H9.f9.f9.f9.f9.f9.f9.f9.f9.f9)
     refine bU Q8 (fun W hW => (Kp.h hW).right.f8.f8.f8.f8.f8.f8.f8.f8) ?_
     refine jm 9 rfl (fK H9.f7 underlying67 (show (prog.info? 202).map (fun i => (i.zero, i.size, i.bytes)) = some (some (.agg #[.int .i64 0, .slice none 0 0, .slice none 0 0]), 3, 56) by kernel_rfl) rfl rfl rfl ((H9).aJ) (aC (by first | rfl | assumption) (aC (by first | rfl | exact Rd.one ((H9.f2).aJ)) (aC (by first | rfl | exact Rd.one ((H9.f3).aJ)) bg))) (by omega) (by omega)) ?_
     rintro l10 w10 qK
     have Wu := qK.f2.right
     have NI := aA.kp (Wu.f8.f8.f8.f8.f8.f8.f8.f8)
     refine dS NI (by kernel_rfl) ?_
     refine iZ 10 rfl NI rfl (dU 11 rfl NI 0 underlying233 rfl sizeOf231 rfl (dU 12 rfl NI 1 underlying231 rfl sizeOf67 rfl ?_))
     refine dO 13 rfl (by kernel_rfl) (aS 1 (l' := [_, _, _, _, _]) Wu.f4 sizeOf67 rfl rfl (by first | rfl | exact Rd.one ((Wu).aJ)) rfl rfl) ?_
     rintro _ w12 vM
     have zN := aA.kp (vM.f8.f8.f8.f8.f8.f8.f8.f8)
     refine dS zN (by kernel_rfl) ?_
     have hadd : 0 < op := by omega
     refine mD (aj (ay (ah (aW rfl (aB (aj (aN (aT (.inl rfl) results133 rfl ?_))))))))
     have e : lU G N a dl il = 0 := by unfold lU; rw [if_neg (by omega), if_neg (by omega)]
     rw [Dn e hadd, Dp e hadd, e]
     have X := (vM.f8.right.f6.f6.f3.f7.f5.f7.f7).jE.swap.jE.swap
     have X2 := aA.uP X.f3
     refine ⟨rfl, aA.qj (gv := wU) (nv := l10) (gs := jJ) (now := jh ++ [⟨a, d8, dl, s8, il⟩]) (ed := (fB G N : Nat) + 1) ⟨iR.1, by rw [Hy]; omega, iR.2.2.1, iR.2.2.2.1, iR.2.2.2.2.1, UD iR.2.2.2.2.2 ⟨b2, b3⟩⟩ o7 (by rw [List.map_append, mY]; rfl) (by rw [Hy]; rfl) (X2.of_eq (by unfold zH; ac_rfl))⟩
    ·(try simp only [aG] at h4)
     have Q9 := H7.drew
     have tJ := aA.kp (Q9.f6.f6.f6.f6.f6.f6)
     refine vJ [5, 6] tJ rfl (fU 0 rfl tJ rfl (fU 1 rfl tJ rfl (iZ 2 rfl tJ rfl (dU 3 rfl tJ 0 underlying233 rfl sizeOf231 rfl (dU 4 rfl tJ 0 underlying231 rfl sizeOf180 rfl (gG 5 rfl tJ (fun W hW => iF underlying180 rfl ((Kp.h hW)).get.2 rfl) (gG 6 rfl tJ (fun W hW => bQ underlying202 rfl sizeOf202 rfl rfl ((Kp.h hW).f6).get.2) (jm 7 rfl (rX rfl func168 (qV Q9 (fun W HW => hd _ (HW.right.right.right.right.right.right)) (fun W HW => hi _ (HW.right.right.right.right.right.right)) (by omega) (by omega))) ?_))))))))
     rintro _ OY ⟨d13, s13, rfl, xq⟩
     have Ei := aA.kp (xq.f8.f8.f8.f8.f8.f8.f8.f8)
     refine bU Ei (fun W hW => (Kp.h hW).right.right.f6.f6.f6.f6.f6.f6) ?_
     refine jm 8 rfl (mP xq underlying67 sizeOf202 zeroValue202 rfl rfl rfl (by decide) (by decide)) ?_
     rintro l14 OZ yR
     have JG := aA.kp (yR.f9.f9.f9.f9.f9.f9.f9.f9.f9)
     refine bU JG (fun W hW => (Kp.h hW).right.f8.f8.f8.f8.f8.f8.f8.f8) ?_
     refine jm 9 rfl (jv (vs := [_]) yR underlying180 sizeOf67 zeroValue67 rfl rfl rfl (by decide) (aC (by first | rfl | exact Rd.one ((yR).aJ)) bg)) ?_
     rintro l15 QV xu
     have wR := aA.kp (xu.f10.f10.f10.f10.f10.f10.f10.f10.f10.f10)
     refine bU wR (fun W hW => (Kp.h hW).right.f9.f9.f9.f9.f9.f9.f9.f9.f9) ?_
     refine jm 10 rfl (fK xu.f6 underlying180 (show (prog.info? 67).map (fun i => (i.zero, i.size, i.bytes)) = some (some (.slice none 0 0), 1, 24) by kernel_rfl) rfl rfl rfl ((xu).aJ) (aC (by first | rfl | exact Rd.one ((xu.f2).aJ)) bg) (by omega) (by omega)) ?_
     rintro ZK w16 sW
     have Hz := sW.f2.right
     have yD := aA.kp (Hz.f9.f9.f9.f9.f9.f9.f9.f9.f9)
     refine dS yD (by kernel_rfl) ?_
     refine iZ 11 rfl yD rfl (dU 12 rfl yD 0 underlying233 rfl sizeOf231 rfl (dU 13 rfl yD 0 underlying231 rfl sizeOf180 rfl ?_))
     refine dO 14 rfl (by kernel_rfl) (aS 0 (l' := [_, _, _, _, _]) Hz.f5 sizeOf180 rfl rfl (by first | rfl | exact Rd.one ((Hz).aJ)) rfl rfl) ?_
     rintro _ TR Au
     have zO := aA.kp (Au.f9.f9.f9.f9.f9.f9.f9.f9.f9)
     refine dS zO (by kernel_rfl) ?_
     have hadd : ¬ 0 < op := by omega
     refine mD (aj (ay (ah (aW rfl (aB (aj (aN (aT (.inl rfl) results133 rfl ?_))))))))
     have e : lU G N a dl il = 0 := by unfold lU; rw [if_neg (by omega), if_neg (by omega)]
     rw [Q5 e hadd, Q7 e hadd, e]
     have X := (Au.f9.right.f8.f8.f3.f8.f5.f6.f8.f8).jE.swap.jE.swap
     have X2 := aA.uP (es := []) X.D6.f3.f3.f4
     have X4 := aA.uQ X2.sJ.swap
     refine ⟨rfl, aA.qj (gv := ZK) (nv := uj) (gs := jJ ++ [(l14, [⟨a, d13, dl, s13, il⟩])]) (now := jh) (ed := (fB G N : Nat) + 1) ⟨NH iR.1 (List.cons_ne_nil _ _), by rw [JE]; omega, iR.2.2.1, iR.2.2.2.1, JD iR.2.2.2.2.1 (by intro e he; rw [List.mem_singleton.1 he]; exact ⟨b2, b3⟩), iR.2.2.2.2.2⟩ (by rw [List.map_append, o7]; rfl) mY (by rw [JE]; rfl) (X4.of_eq (by unfold Fv; ac_rfl))⟩
end
end Go.Proofs.YtddekefihgejoaaGreatDoor
end
section
namespace Go.Proofs.YtddekefihgejoaaGreatDoor
open Go.RowKit
def HY (P : Program) (l : Nat) (vs : List Value) (w : World) (T : Value → World → Prop) : Prop :=
  ∃ f tmps c d, (Instr.yield l vs.toArray).run P w = .ok (.round l f tmps c d) w ∧ RoundIn Fence.wide 0 P l f tmps c d w fun e w' => ∃ v, e = .returned v ∧ T v w'
theorem HY.mono {P : Program} {l : Nat} {vs : List Value} {w : World} {T T' : Value → World → Prop} (h : HY P l vs w T) (k : ∀ v w', T v w' → T' v w') : HY P l vs w T' :=
  let ⟨f, tmps, c, d, h1, h2⟩ := h; ⟨f, tmps, c, d, h1, RoundIn.mono h2 fun _ _ ⟨v, e, t⟩ => ⟨v, e, k _ _ t⟩⟩
theorem HY.bool {P : Program} {l : Nat} {vs : List Value} {w : World} {A B : World → Prop} (h : HY P l vs w fun v W' => (v = .bool true ∧ A W') ∨ (v = .bool false ∧ B W')) : HY P l vs w fun v W' => ∃ t, v = .bool t ∧ (t = true → A W') ∧ (t = false → B W') :=
  h.mono fun v W' hv => by
    rcases hv with ⟨rfl, h⟩ | ⟨rfl, h⟩
    · exact ⟨true, rfl, fun _ => h, fun e => by cases e⟩
    · exact ⟨false, rfl, (fun e => by cases e), fun _ => h⟩
theorem Dq {P : Program} {L : List (Nat × Value)} {w : World} {ty : TypeId} {x : Operand} {args : List Operand} {ts : Array TypeId} {l : Nat} {vs : List Value} {T : Value → World → Prop} (hx : ev L x = some (.func (.yield l) #[] #[])) (ha : Ap L args = some vs) (h : HY P l vs w T) :
    rU P L (.call ⟨.value x, args.toArray, ts⟩) ty w T := by
  obtain ⟨f, tmps, c, d, hy, hr⟩ := h
  refine Ua (fun ρ hρ dd pos lM g => ?_) hr
  have hg := hρ _ _ hx
  simp [execOp, resolve, invoke, Xw hρ _ _ ha, hg, Deferred.ofValue, hy]
def Iter (P : Program) (w0 : World) (fv : Value) (R : HP) (n : Nat) (E : Nat → List Value → HP → Prop) : Prop :=
  ∀ (l : Nat) (J : Nat → HP) (X : HP) (w : World),
    (∀ k, k < n → ∀ vs A, E k vs A → ∀ G W, aA w0 W (A • J k • G) → HY P l vs W fun v W' => (v = .bool true ∧ aA w0 W' (J (k + 1) • G)) ∨ (v = .bool false ∧ aA w0 W' (X • G))) →
    aA w0 w (J 0 • R) → Vp P fv [.func (.yield l) #[] #[]] w fun _ W' => aA w0 W' (J n • R) ∨ aA w0 W' (X • R)
def JH (w0 : World) (I : HP) (Xr : HP) (Xe : Nat → HP) (G : HP) : Exit → Act → World → Prop
  | .normal, _, W => aA w0 W (I • G)
  | .ret, _, W => aA w0 W (Xr • G)
  | .exit id, _, W => aA w0 W (Xe id • G)
  | _, _, _ => False
def NJ (P : Program) (N : Sh) (w0 : World) (body : Code) (I : HP) (Xr : HP) (Xe : Nat → HP) (G : HP) (a : Act) (W : World) : Prop :=
  ∃ (L : List (Nat × Value)) (B : HP), Fits N L a ∧ aA w0 W (B • G) ∧ ∀ G' W', aA w0 W' (B • G') → WC P N body (JH w0 I Xr Xe G') L W'
def Rf : Exit → Act → World → Prop := fun _ _ _ => False
theorem Ia {P : Program} {N : Sh} {w0 w : World} {body : Code} {I Xr : HP} {Xe : Nat → HP} {G B : HP} {L : List (Nat × Value)} (H : aA w0 w (B • G)) (h : ∀ G' W', aA w0 W' (B • G') → WC P N body (JH w0 I Xr Xe G') L W') :
    WQ N (Exit.then (NJ P N w0 body I Xr Xe G) Rf) .normal L w := fun _ a ha => ⟨L, B, ha, H, h⟩
theorem yS {N : Sh} {w0 w : World} {I Xr : HP} {Xe : Nat → HP} {G : HP} {L : List (Nat × Value)} (H : aA w0 w (I • G)) : WQ N (JH w0 I Xr Xe G) .normal L w := fun _ _ _ => H
theorem Rh {N : Sh} {w0 w : World} {I Xr : HP} {Xe : Nat → HP} {G : HP} {id : Nat} {L : List (Nat × Value)} (H : aA w0 w (Xe id • G)) : WQ N (JH w0 I Xr Xe G) (.exit id) L w := fun _ _ _ => H
theorem Ri {w0 : World} {I Xr : HP} {Xe : Nat → HP} {G : HP} : NP (JH w0 I Xr Xe G) := fun _ _ _ h => h
def JI : List Nat → List Value → List (Nat × Value) → List (Nat × Value)
  | [], _, L => L
  | _ :: _, [], L => L
  | p :: ps, v :: vs, L => JI ps vs ((p, v) :: L)
theorem JJ {n l : Nat} : ∀ (ps : List Nat) (vs : List Value) (L : List (Nat × Value)) (tmps : Array Value), (∀ p ∈ ps, p < n) → Fits ⟨n, [], some l⟩ L { tmps := tmps, defers := [] } →
    Fits ⟨n, [], some l⟩ (JI ps vs L) { tmps := (ps.zip vs).foldl (fun t (p : Nat × Value) => t.setIfInBounds p.1 p.2) tmps, defers := [] }
  | [], _, _, _, _, h => h
  | _ :: _, [], _, _, _, h => h
  | p :: ps, v :: vs, L, tmps, hp, h => JJ ps vs _ _ (fun q hq => hp q (by simp [hq])) (h.put (hp p (by simp)) v)
section
variable {P : Program} {N : Sh} {Q : Exit → Act → World → Prop} {L : List (Nat × Value)} {w0 w : World}
theorem qY {g : Operand} {ps : List Nat} {assign body : Code} {fv : Value} {R : HP} {n : Nat} {E : Nat → List Value → HP → Prop} (hg : ev L g = some fv) (hit : Iter P w0 fv R n E) (I : Nat → HP) (Xr : HP) (Xe : Nat → HP) (H : aA w0 w (I 0 • R))
    (hps : ps.all (· < N.n) = true)
    (hbody : ∀ l k, k < n → ∀ vs A, E k vs A → ∀ G W, aA w0 W (A • I k • G) → vs.length = ps.length ∧ WC P ⟨N.n, [], some l⟩ assign (Exit.then (NJ P ⟨N.n, [], some l⟩ w0 body (I (k + 1)) Xr Xe G) Rf) (JI ps vs L) W)
    (hdone : ∀ D W, aA w0 W (cO D (.deferred (some [])) • I n • R) → WQ ⟨N.n, D :: N.ds, none⟩ Q .normal L W)
    (hret : ∀ D W, aA w0 W (cO D (.deferred (some [])) • Xr • R) → WQ ⟨N.n, D :: N.ds, none⟩ Q .ret L W)
    (Yw : ∀ id D W, aA w0 W (cO D (.deferred (some [])) • Xe id • R) → WQ ⟨N.n, D :: N.ds, none⟩ Q (.exit id) L W)
    (hro : N.ro = none := by rfl) : WC P N (.rangeFunc g ps.toArray assign body) Q L w := fun np a ha => by
  rw [hro]
  refine wpIn_rangeFunc fun fn _ => ?_
  let oK : LoopState → Option Code → Loop := fun s j => { state := s, pending := j, fn, tmps := a.tmps, params := ps.toArray, assign, body, defers := w.heap.size }
  have aan := run_enterLoop_outer (P := P) (w := w) fn a.tmps ps.toArray assign body
  have H1 : aA w0 ((w.alloc (.deferred (some []))).alloc (.loop (oK .ready none))) (cO (w.heap.size + 1) (.loop (oK .ready none)) • cO w.heap.size (.deferred (some [])) • I 0 • R) := by
    have := (H.alloc (.deferred (some []))).alloc (.loop (oK .ready none))
    rw [World.size_alloc] at this
    exact this
  let Lk : LoopState → Option Code → HP := fun s j => cO (w.heap.size + 1) (.loop (oK s j)) • cO w.heap.size (.deferred (some []))
  have Wv : ∀ k, k < n → ∀ vs A, E k vs A → ∀ G W, aA w0 W (A • (Lk .ready none • I k) • G) → HY P (w.heap.size + 1) vs W fun v W' => (v = .bool true ∧ aA w0 W' ((Lk .ready none • I (k + 1)) • G)) ∨
      (v = .bool false ∧ aA w0 W' (qC (fun c : Code => Lk .done (some c) • (match c with | .ret => Xr | .exit id => Xe id | _ => fact False)) • G)) := by
    intro k hk vs A hE G W HW
    have e1 : (A • (Lk .ready none • I k) • G) = (cO (w.heap.size + 1) (.loop (oK .ready none)) • A • I k • cO w.heap.size (.deferred (some [])) • G) := by
      show (A • ((cO (w.heap.size + 1) (.loop (oK .ready none)) • cO w.heap.size (.deferred (some []))) • I k) • G) = _
      ac_rfl
    have HW1 := HW.of_eq e1
    have hl := HW1.get.2
    have hlen := (hbody (w.heap.size + 1) k hk vs A hE _ W (HW1.of_eq (show _ = (A • I k • cO (w.heap.size + 1) (.loop (oK .ready none)) • cO w.heap.size (.deferred (some [])) • G) by ac_rfl))).1
    refine ⟨fn, _, assign, body, run_yield hl (by rw [List.size_toArray, hlen]; exact List.size_toArray.symm), ?_⟩
    have hfit : Fits ⟨N.n, [], some (w.heap.size + 1)⟩ (JI ps vs L) { tmps := (ps.toArray.zip vs.toArray).foldl (fun tmps (t, a) => tmps.setIfInBounds t a) a.tmps, defers := [] } := by
      have := JJ (n := N.n) (l := w.heap.size + 1) ps vs L a.tmps (fun p hp => by simpa using List.all_eq_true.1 hps p hp) ⟨ha.size, rfl, ha.at_⟩
      simpa using this
    refine roundIn_of_wpIn trivial ?_
    have HW2 : aA w0 W (A • I k • cO (w.heap.size + 1) (.loop (oK .ready none)) • cO w.heap.size (.deferred (some [])) • G) := HW1.of_eq (by ac_rfl)
    have hb := (hbody (w.heap.size + 1) k hk vs A hE _ W HW2).2 (fun c a w h => h) _ hfit
    refine wpIn_mono hb ?_
    rintro e a1 W1 hq
    cases e with
    | exit id => exact hq.elim
    | goto l => exact hq.elim
    | ret => exact hq.elim
    | panic c => exact hq.elim
    | outgrown => exact hq.elim
    | normal =>
      obtain ⟨L1, B, hf1, HB, hgo⟩ := hq
      have HB1 : aA w0 W1 (cO (w.heap.size + 1) (.loop (oK .ready none)) • B • cO w.heap.size (.deferred (some [])) • G) := HB.of_eq (by ac_rfl)
      have hl1 := HB1.get.2
      refine ⟨_, run_beginRound hl1 rfl, ?_⟩
      have HB2 : aA w0 (W1.putObj (w.heap.size + 1) (.loop (oK .busy none))) (cO (w.heap.size + 1) (.loop (oK .busy none)) • B • cO w.heap.size (.deferred (some [])) • G) := HB1.turn rfl rfl rfl (by simp) (World.putObj_heap_same HB1.lt) fun k hk _ => World.putObj_heap_other hk
      have hbd := hgo (cO (w.heap.size + 1) (.loop (oK .busy none)) • cO w.heap.size (.deferred (some [])) • G) _ (HB2.of_eq (by ac_rfl)) Ri a1 hf1
      refine wpIn_mono hbd ?_
      have fin : ∀ (j : Option Code) (W3 : World) (A3 : HP), aA w0 W3 (A3 • cO (w.heap.size + 1) (.loop (oK .busy none)) • cO w.heap.size (.deferred (some [])) • G) →
          (Instr.endRound (w.heap.size + 1) j).run P W3 = .ok (.bool j.isNone) (W3.putObj (w.heap.size + 1) (.loop (oK (if j.isNone then .ready else .done) j))) ∧
          aA w0 (W3.putObj (w.heap.size + 1) (.loop (oK (if j.isNone then .ready else .done) j))) ((Lk (if j.isNone then .ready else .done) j • A3) • G) := by
        intro j W3 A3 H3
        have H4 := H3.swap
        refine ⟨run_endRound j H4.get.2, ?_⟩
        have H5 : aA w0 (W3.putObj (w.heap.size + 1) (.loop (oK (if j.isNone then .ready else .done) j))) (cO (w.heap.size + 1) (.loop (oK (if j.isNone then .ready else .done) j)) • A3 • cO w.heap.size (.deferred (some [])) • G) := H4.turn rfl rfl rfl (by simp) (World.putObj_heap_same H4.lt) fun k hk _ => World.putObj_heap_other hk
        refine H5.of_eq ?_
        show _ = (((cO (w.heap.size + 1) (.loop (oK (if j.isNone then .ready else .done) j)) • cO w.heap.size (.deferred (some []))) • A3) • G)
        ac_rfl
      rintro e a3 W3 hp
      cases e with
      | normal => obtain ⟨h1, h2⟩ := fin none W3 _ hp; exact ⟨_, _, h1, _, rfl, .inl ⟨rfl, h2⟩⟩
      | ret => obtain ⟨h1, h2⟩ := fin (some .ret) W3 _ hp; exact ⟨_, _, h1, _, rfl, .inr ⟨rfl, aA.gY .ret h2⟩⟩
      | exit id => obtain ⟨h1, h2⟩ := fin (some (.exit id)) W3 _ hp; exact ⟨_, _, h1, _, rfl, .inr ⟨rfl, aA.gY (.exit id) h2⟩⟩
      | goto l => exact hp.elim
      | panic c => exact hp.elim
      | outgrown => exact hp.elim
  have hcall := hit (w.heap.size + 1) (fun k => Lk .ready none • I k) _ _ Wv (H1.of_eq (by
    show _ = (((cO (w.heap.size + 1) (.loop (oK .ready none)) • cO w.heap.size (.deferred (some []))) • I 0) • R)
    ac_rfl))
  obtain ⟨f, first, cap, fn', c, rfl, hf, hn, hb, Yx⟩ := hcall
  refine ⟨w.heap.size + 1, _, _, { target := .fn (.func f) cap.toArray, args := (first ++ [Value.func (.yield (w.heap.size + 1)) #[] #[]]).toArray }, (w.alloc (.deferred (some []))).alloc (.loop (oK .ready none)), f, _, (w.alloc (.deferred (some []))).alloc (.loop (oK .ready none)), aan, ?_, fun _ _ => trivial, ?_, (fun h => by cases h), Qk.2 (Calls.mono Yx ?_)⟩
  · have he := ha.ev hg
    have he2 : a.eval (.const (.func (.yield (w.heap.size + 1)) #[] #[])) = .func (.yield (w.heap.size + 1)) #[] #[] := rfl
    simp [resolve, rangeCall, he, he2, Deferred.ofValue, oK]
  · simp [invoke, callFunc, hf, hb]
    simpa using hn
  · rintro e W2 ⟨v, rfl, hv⟩
    have fin : ∀ (s : LoopState) (j : Option Code) (A : HP), s ≠ .busy → aA w0 W2 ((Lk s j • A) • R) → (Instr.endLoop (w.heap.size + 1)).run P W2 = .ok j (W2.putObj (w.heap.size + 1) (.loop (oK .exhausted j))) ∧
        aA w0 (W2.putObj (w.heap.size + 1) (.loop (oK .exhausted j))) (cO w.heap.size (.deferred (some [])) • A • R) := by
      intro s j A hs H3
      have H4 : aA w0 W2 (cO (w.heap.size + 1) (.loop (oK s j)) • cO w.heap.size (.deferred (some [])) • A • R) := H3.of_eq (by
        show (((cO (w.heap.size + 1) (.loop (oK s j)) • cO w.heap.size (.deferred (some []))) • A) • R) = _
        ac_rfl)
      refine ⟨run_endLoop H4.get.2 hs, ?_⟩
      have H5 : aA w0 (W2.putObj (w.heap.size + 1) (.loop (oK .exhausted j))) (cO (w.heap.size + 1) (.loop (oK .exhausted j)) • cO w.heap.size (.deferred (some [])) • A • R) := H4.turn rfl rfl rfl (by simp) (World.putObj_heap_same H4.lt) fun k hk _ => World.putObj_heap_other hk
      exact H5.right
    have hfit : Fits ⟨N.n, w.heap.size :: N.ds, none⟩ L { a with defers := [{ target := .collected w.heap.size, args := #[] }] ++ a.defers } := ⟨ha.size, by simp [ha.defers, Qj], ha.at_⟩
    rcases hv with hv | hv
    · obtain ⟨h1, h2⟩ := fin _ _ _ (by decide) hv
      exact ⟨none, _, h1, hdone _ _ h2 np _ hfit⟩
    · obtain ⟨c, hv⟩ := hv.kU
      obtain ⟨h1, h2⟩ := fin _ _ _ (by decide) hv
      cases c with
      | ret => exact ⟨some .ret, _, h1, wpIn_ret (hret _ _ h2 np _ hfit)⟩
      | exit id => exact ⟨some (.exit id), _, h1, wpIn_exit (Yw id _ _ h2 np _ hfit)⟩
      | _ => exact absurd h2.swap.fact.1 id
end
end Go.Proofs.YtddekefihgejoaaGreatDoor
end
section
namespace Go.Proofs.YtddekefihgejoaaGreatDoor
open Go.RowKit
open _root_.Go.Proofs.Tryz
def jr (G : List (List fG)) (N : List fG) : List (List fG) := if N = [] then G else G ++ [N]
theorem L6 {G : List (List fG)} {N : List fG} (h : N = []) : jr G N = G := by unfold jr; rw [if_pos h]
theorem mQ {G : List (List fG)} {N : List fG} (h : N ≠ []) : jr G N = G ++ [N] := by unfold jr; rw [if_neg h]
theorem Ej {G : List (List fG)} {N : List fG} : fB (jr G N) [] = fB G N := by
  unfold jr; split
  · rename_i h; rw [h]
  · simp [fB]
section
variable {w0 w : World} {F : HP} {p : Nat} {G : List (List fG)} {N : List fG} {op : Int} {gv nv v : Value} {gs : List (Value × List dw)} {now es : List dw} {a : Int} {d z : Value} {dl il : List Int}
theorem xA (H : aA w0 w (eF p G N op • F)) : fQ prog 166 #[.pointer (some ⟨p, 0, none⟩)] w fun _ w' => aA w0 w' (eF p (jr G N) [] 0 • F) := by
 refine iw func166 ntmps166 ?_
 dsimp only [aZ, Nat.reduceAdd]
 refine ay (ay ?_)
 obtain ⟨wU, uj, jJ, jh, iR, o7, mY, Ba, Bc, FC, kT⟩ := (H).qO
 refine ah (aP rfl (bT rfl (bf 0 underlying233 rfl sizeOf231 rfl (bf 1 underlying231 rfl sizeOf67 rfl (dA underlying67 rfl (kT).get.2 rfl (aU (eY ((kT.f4).aJ) underlying67 rfl) (aU (gU rfl rfl) (aB (aj (aO rfl (fun h1 => ?_) (fun h1 => ?_)))))))))))
 ·(try simp only [aG] at h1)
  have Yy : 0 < jh.length := by omega
  have Pe := kT.drew
  have iW := aA.kp (Pe.f5.f5.f5.f5.f5)
  refine vJ [5, 10] iW rfl (fU 0 rfl iW rfl (fU 1 rfl iW rfl (iZ 2 rfl iW rfl (dU 3 rfl iW 0 underlying233 rfl sizeOf231 rfl (dU 4 rfl iW 0 underlying231 rfl sizeOf180 rfl (gG 5 rfl iW (fun W hW => iF underlying180 rfl ((Kp.h hW)).get.2 rfl) (fU 6 rfl iW rfl (iZ 7 rfl iW rfl (dU 8 rfl iW 0 underlying233 rfl sizeOf231 rfl (dU 9 rfl iW 1 underlying231 rfl sizeOf67 rfl (gG 10 rfl iW (fun W hW => iF underlying67 rfl ((Kp.h hW)).get.2 rfl) (jm 11 rfl (jv (vs := [_]) Pe underlying180 sizeOf67 zeroValue67 rfl rfl rfl (by decide) (aC (by first | rfl | exact Rd.one ((Pe.f4).aJ)) bg)) ?_))))))))))))
  rintro l2 w2 H2
  have zQ := aA.kp (H2.f6.f6.f6.f6.f6.f6)
  refine bU zQ (fun W hW => (Kp.h hW).right.f5.f5.f5.f5.f5) ?_
  refine jm 12 rfl (fK H2.f3 underlying180 (show (prog.info? 67).map (fun i => (i.zero, i.size, i.bytes)) = some (some (.slice none 0 0), 1, 24) by kernel_rfl) rfl rfl rfl ((H2).aJ) (aC (by first | rfl | exact Rd.one ((H2.f5).aJ)) bg) (by omega) (by omega)) ?_
  rintro l3 w3 H3
  have Hd4 := H3.f2.right
  have uO := aA.kp (Hd4.f5.f5.f5.f5.f5)
  refine dS uO (by kernel_rfl) ?_
  refine iZ 13 rfl uO rfl (dU 14 rfl uO 0 underlying233 rfl sizeOf231 rfl (dU 15 rfl uO 0 underlying231 rfl sizeOf180 rfl ?_))
  refine dO 16 rfl (by kernel_rfl) (aS 0 (l' := [_, _, _, _, _]) Hd4.f2 sizeOf180 rfl rfl (by first | rfl | exact Rd.one ((Hd4).aJ)) rfl rfl) ?_
  rintro _ w5 H5
  have sN := aA.kp (H5.f5.f5.f5.f5.f5)
  refine dS sN (by kernel_rfl) ?_
  refine mD (aj (ah (aP rfl (aP rfl (bT rfl (bf 0 underlying233 rfl sizeOf231 rfl (bf 1 underlying231 rfl sizeOf67 rfl (aI (aS 1 (l' := [_, _, _, _, _]) H5 sizeOf67 rfl rfl (by first | rfl | assumption) rfl rfl) ?_))))))))
  rintro _ w6 H6
  refine bT rfl (bf 0 underlying233 rfl sizeOf231 rfl (bf 2 underlying231 rfl sizeOf3 rfl (aI (aS 2 (l' := [_, _, _, _, _]) H6 sizeOf3 rfl rfl (by first | rfl | assumption) rfl rfl) ?_)))
  rintro _ w7 H7
  refine aB (gq (.inr rfl) results166 ?_)
  have hN : N ≠ [] := by rintro rfl; exact absurd Bc (by simp only [List.length_nil]; omega)
  rw [mQ hN]
  have X := aA.sJ (v := uj) (es := jh) (H7.f3.f3.f5.f5).deep
  have X4 := aA.uQ X.swap
  refine aA.qj (gv := l3) (nv := .slice none 0 0) (gs := jJ ++ [(uj, jh)]) (now := []) (ed := (fB G N : Nat)) ⟨NH iR.1 hN, by rw [← mQ hN, Ej]; exact iR.2.1, by decide, by decide, JD iR.2.2.2.2.1 iR.2.2.2.2.2, by simp⟩ (by rw [List.map_append, o7, ← mY]; rfl) rfl (by rw [← mQ hN, Ej]) ((X4.pI none).of_eq (by ac_rfl))
 ·(try simp only [aG] at h1)
  have Yy : jh.length = 0 := by omega
  refine aQ (aj (ah (aP rfl (aP rfl (bT rfl (bf 0 underlying233 rfl sizeOf231 rfl (bf 1 underlying231 rfl sizeOf67 rfl (aI (aS 1 (l' := [_, _, _, _, _]) kT sizeOf67 rfl rfl (by first | rfl | assumption) rfl rfl) ?_))))))))
  rintro _ w8 H8
  refine bT rfl (bf 0 underlying233 rfl sizeOf231 rfl (bf 2 underlying231 rfl sizeOf3 rfl (aI (aS 2 (l' := [_, _, _, _, _]) H8 sizeOf3 rfl rfl (by first | rfl | assumption) rfl rfl) ?_)))
  rintro _ w9 H9
  refine aB (gq (.inr rfl) results166 ?_)
  have hN : N = [] := by rw [← mY, List.eq_nil_of_length_eq_zero Yy]; rfl
  subst hN
  rw [L6 rfl]
  refine aA.qj (gv := wU) (nv := .slice none 0 0) (gs := jJ) (now := []) (ed := (fB G [] : Nat)) ⟨iR.1, iR.2.1, by decide, by decide, iR.2.2.2.2⟩ o7 rfl rfl (((H9.f4.right.f4.right.f3.f3).pI none).of_eq (by unfold zH; ac_rfl))
theorem aA.Ib (H : aA w0 w (Ar v es • F)) : aA w0 w (Ar v es • Ar v es • F) := H.zn
theorem Pg (b : Nat) : Iter prog w0 (.func (.func 182) #[] #[.pointer (some ⟨b, 0, none⟩)]) (cO b (.cells #[v] 67 (0, 0)) • Ar v es) es.length
  (fun k vs A => vs = [.int .i64 ((es.length - (k + 1) : Nat) : Int), .agg (es.getD (es.length - (k + 1)) default).enc.toArray] ∧ A = Ar v es) := by
 intro l J X w hy H
 refine ⟨182, [], [.pointer (some ⟨b, 0, none⟩)], _, _, rfl, func182, rfl, rfl, ?_⟩
 have H1 : aA w0 w (cO b (.cells #[v] 67 (0, 0)) • Ar v es • J 0) := H.of_eq (by ac_rfl)
 obtain ⟨a, c, hv, hc1, hc2, _⟩ := (H1.swap.yP).form
 subst hv
 simp only [List.nil_append, List.cons_append]
 refine iw func182 ntmps182 ?_
 dsimp only [aZ, Nat.reduceAdd]
 refine ay (ah (dA underlying67 rfl (H1).get.2 rfl (aU (eY ((H1.f2).yP) underlying67 rfl) (aU (je rfl rfl (by omega)) (aW rfl (aB (aj (aY ?_))))))))
 refine eP [(0, _), (1, _)] (fun (k : Nat) => [(3, .int .i64 ((k : Int) - 1))]) (fun (k : Nat) W => k ≤ es.length ∧ aA w0 W (cO b (.cells #[.slice a es.length c] 67 (0, 0)) • Ar (.slice a es.length c) es • J (es.length - k))) (fun (k : Nat) => k) (es.length) (Sub.cons rfl (Sub.cons rfl (Sub.nil _))) (Sub.cons rfl (Sub.nil _)) ⟨by omega, by rw [Nat.sub_self]; exact H1⟩ ?_
 rintro k w1 ⟨hk, HL⟩
 dsimp only [List.cons_append, List.nil_append]
 refine ay (ay (ah (aP rfl (aU (wW rfl rfl) (aB (aj (aO rfl (fun h1 => ?_) (fun h1 => ?_))))))))
 ·(try simp only [aG] at h1)
  try (exfalso; first | contradiction | omega)
  all_goals
   refine aQ (aj (ay (aY (ay ?_))))
   obtain ⟨m, rfl⟩ : ∃ m, k = m + 1 := ⟨k - 1, by omega⟩
   rw [show (((m + 1 : Nat) : Int) - 1) = (m : Int) from by omega]
   refine ah (aP rfl (aP rfl (dA underlying67 rfl (HL).get.2 rfl (aP rfl ?_))))
   obtain ⟨bv, ov, cv, ev⟩ := Rd.kN ((HL.f2).yP) (by omega)
   cases ev
   refine aU (bV underlying67 sizeOf202 rfl rfl (by omega)) (aU (iG (ys := [_, _, _]) ((HL.f2).yP) (by omega) underlying202 rfl sizeOf202 rfl (jw dw.zF (by omega) default) rfl) (gB (Dq rfl rfl (hy (es.length - (m + 1)) (by omega) _ _ ⟨by rw [show es.length - (es.length - (m + 1) + 1) = m from by omega]; rfl, rfl⟩ (Ar (.slice (some ⟨bv, ov, none⟩) es.length c) es • cO b (.cells #[.slice (some ⟨bv, ov, none⟩) es.length c] 67 (0, 0))) _ (HL.swap.Ib.of_eq (by ac_rfl))).bool) ?_))
   rintro _ w2 ⟨t, rfl, ht1, ht2⟩
   refine aU (jT rfl) (aB (aj (aO rfl (fun h2 => ?_) (fun h2 => ?_))))
   ·(try simp only [aG] at h2)
    try (exfalso; first | contradiction | omega)
    all_goals
     have HX := ht2 (by simpa using h2)
     refine aN (aX (aK (aK (aX (gq (.inl rfl) results182 ?_)))))
     exact .inr (HX.of_eq (by ac_rfl))
   ·(try simp only [aG] at h2)
    try (exfalso; first | contradiction | omega)
    all_goals
     have HN : aA w0 w2 (cO b (.cells #[.slice (some ⟨bv, ov, none⟩) es.length c] 67 (0, 0)) • Ar (.slice (some ⟨bv, ov, none⟩) es.length c) es • J (es.length - m)) := by
      have h9 := ht1 (by simpa using h2)
      rw [show es.length - (m + 1) + 1 = es.length - m from by omega] at h9
      exact h9.of_eq (by ac_rfl)
     refine aQ (aH (aj (ah (aP rfl (aU (je rfl rfl (by omega)) (aW rfl (aB ?_)))))))
     refine bZ (m) ?_ ?_ ?_ ?_
     ·exact (Sub.cons rfl (Sub.nil _))
     ·exact (Sub.cons rfl (Sub.cons rfl (Sub.nil _)))
     ·(try dsimp only)
      first | done | exact ⟨by omega, HN.f2.f2⟩
     ·(try dsimp only); omega
 ·(try simp only [aG] at h1)
  try (exfalso; first | contradiction | omega)
  all_goals
   refine dK (aV (aV (bD (gq (.inr rfl) results182 ?_))))
   obtain rfl : k = 0 := by omega
   rw [Nat.sub_zero] at HL
   exact .inl (HL.of_eq (by ac_rfl))
end
end Go.Proofs.YtddekefihgejoaaGreatDoor
end
