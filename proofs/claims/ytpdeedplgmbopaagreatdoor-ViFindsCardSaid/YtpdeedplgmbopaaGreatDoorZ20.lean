import Derived.Test.YtpdeedplgmbopaaGreatDoorZ4
import Derived.Test.YtpdeedplgmbopaaGreatDoorZ19
import Derived.Test.YtpdeedplgmbopaaGreatDoorCards
import Derived.Test.YtpdeedplgmbopaaGreatDoorZ5
import Derived.SevenTiedAt
set_option linter.unusedSimpArgs false
set_option linter.unusedVariables false
/- ViFinds in its first form, as the card states it, for whatever the program's variables hold as its text lays them. No condition beside the form's own.
Texts of mine, joined, their names in short: LawVFinds HasVFinds. -/
section
namespace Go.Proofs.YtpdeedplgmbopaaGreatDoor
open Go.RowKit
open _root_.Go.Proofs.Tryz
section
variable {c i : Int} {l : List Int}
theorem Ii : ∀ {l : List Int}, yF (uf c) 1 l = none → c ∉ l
  | [], _ => by simp
  | x :: l, h => by
    rw [yF] at h
    by_cases hx : x = c
    · rw [Ee hx (by omega)] at h; cases h
    · rw [BN hx] at h
      have := Ii (l := l) (by simpa using h)
      simp [this, Ne.symm hx]
theorem Et : ∀ {l : List Int} {i : Int}, yF (uf c) 1 l = some i → ∃ n : Nat, i = n ∧ n < l.length ∧ l.getD n 0 = c ∧ c ∉ l.take n
  | [], i, h => by cases h
  | x :: l, i, h => by
    rw [yF] at h
    by_cases hx : x = c
    · rw [Ee hx (by omega)] at h
      have : i = 0 := (Option.some.inj h).symm
      exact ⟨0, by rw [this]; rfl, by simp, hx, by simp⟩
    · rw [BN hx] at h
      dsimp only at h
      obtain ⟨j, hj, rfl⟩ := Option.map_eq_some_iff.1 h
      obtain ⟨n, rfl, h1, h2, h3⟩ := Et (l := l) hj
      exact ⟨n + 1, by omega, by simpa using h1, by simpa using h2, by simp [h3, Ne.symm hx]⟩
theorem Xc {n : Nat} (hn : n < l.length) (h : l.getD n 0 = c) : ∃ j : Nat, yF (uf c) 1 l = some (j : Int) ∧ j ≤ n ∧ l.getD j 0 = c := by
  cases hs : yF (uf c) 1 l with
  | none => exact absurd (by rw [← h, List.getD_eq_getElem?_getD, List.getElem?_eq_getElem hn]; exact List.getElem_mem _) (Ii hs)
  | some i =>
    obtain ⟨j, rfl, h1, h2, h3⟩ := Et hs
    refine ⟨j, rfl, Nat.le_of_not_lt fun hlt => h3 ?_, h2⟩
    rw [← h, List.getD_eq_getElem?_getD, List.getElem?_eq_getElem hn, Option.getD_some]
    exact List.mem_iff_getElem.2 ⟨n, by rw [List.length_take]; omega, by rw [List.getElem_take]⟩
theorem acN {x : Int} (hx : 0 ≤ x ∧ x ≤ l.length) : jf l x 102 c 1 = wG l x 102 c 1 := by
  unfold jf jJ
  rw [show min (max x 0) (l.length : Int) = x from by omega]; rfl
theorem aek {x : Int} (hx : 0 ≤ x ∧ x ≤ l.length) : jf l x 70 c 1 = wG l x 70 c 1 := by
  unfold jf jJ
  rw [show min (max x 0) (l.length : Int) = x from by omega]; rfl
theorem ael {x : Int} (hx : 0 ≤ x ∧ x ≤ l.length) : jf l x 116 c 1 = wG l x 116 c 1 := by
  unfold jf jJ
  rw [show min (max x 0) (l.length : Int) = x from by omega]; rfl
theorem YK {x : Int} (hx : 0 ≤ x ∧ x < l.length) (h : (jf l x 102 c 1).2.2 = false) : jf l x 102 c 1 = (0, false, false) ∧ c ∉ l.drop (x + 1).toNat := by
  rw [acN ⟨hx.1, by omega⟩] at h ⊢
  cases hs : pW (lU 102) (uf c) l 1 (x + lU 102) with
  | some i => rw [oQ hs] at h; cases h
  | none =>
    refine ⟨xw hs, ?_⟩
    unfold pW at hs
    rw [show lU 102 = 1 from rfl] at hs
    by_cases h1 : x + 1 < l.length
    · rw [if_pos ⟨by omega, h1⟩, if_pos rfl] at hs
      exact Ii (by simpa using hs)
    · rw [List.drop_of_length_le (by omega)]; simp
theorem Xd {x : Int} (hx : 0 ≤ x ∧ x < l.length) (h : (jf l x 102 c 1).2.2 = true) :
    ∃ i : Int, jf l x 102 c 1 = (i, true, true) ∧ x < i ∧ i < l.length ∧ l.getD i.toNat 0 = c ∧ c ∉ (l.drop (x + 1).toNat).take (i.toNat - (x + 1).toNat) ∧ jf l x 116 c 1 = (i - 1, true, true) ∧ ∃ j : Int, jf l i 70 (l.getD x.toNat 0) 1 = (j, false, true) ∧ x ≤ j ∧ j < l.length ∧ l.getD j.toNat 0 = l.getD x.toNat 0 := by
  rw [acN ⟨hx.1, by omega⟩] at h ⊢
  cases hs : pW (lU 102) (uf c) l 1 (x + lU 102) with
  | none => rw [xw hs] at h; cases h
  | some i =>
    have hv : wG l x 102 c 1 = (i, true, true) := oQ hs
    have ht : wG l x 116 c 1 = (i - 1, true, true) := oQ (key := 116) hs
    unfold pW at hs
    rw [show lU 102 = 1 from rfl] at hs
    have h1 : x + 1 < l.length := by
      by_cases h1 : x + 1 < l.length
      · exact h1
      · rw [if_neg (by omega)] at hs; cases hs
    rw [if_pos ⟨by omega, h1⟩, if_pos rfl] at hs
    obtain ⟨k, hk, rfl⟩ := Option.map_eq_some_iff.1 hs
    obtain ⟨n, rfl, h2, h3, h4⟩ := Et hk
    rw [List.length_drop] at h2
    have hi : (x + 1 + (n : Int)).toNat = (x + 1).toNat + n := by omega
    refine ⟨_, hv, by omega, by omega, ?_, ?_, (ael ⟨hx.1, by omega⟩).trans ht, ?_⟩
    · rw [hi, ← h3, List.getD_eq_getElem?_getD, List.getD_eq_getElem?_getD, List.getElem?_drop]
    · rw [hi, Nat.add_sub_cancel_left]; exact h4
    ·
      have hlen : ((l.take ((x + 1 + (n : Int) + -1).toNat + 1)).reverse).length = (x + 1 + (n : Int)).toNat := by rw [List.length_reverse, List.length_take]; omega
      have hat : (l.take ((x + 1 + (n : Int) + -1).toNat + 1)).reverse.getD n 0 = l.getD x.toNat 0 := by
        rw [List.getD_eq_getElem?_getD, List.getD_eq_getElem?_getD, List.getElem?_reverse (by rw [← List.length_reverse, hlen]; omega), List.length_take, List.getElem?_take]
        rw [if_pos (by omega)]
        congr 2; omega
      obtain ⟨j, hj, hjn, hjc⟩ := Xc (n := n) (by rw [hlen]; omega) hat
      have hb : pW (lU 70) (uf (l.getD x.toNat 0)) l 1 (x + 1 + (n : Int) + lU 70) = some (x + 1 + (n : Int) + -1 - (j : Int)) := by
        unfold pW
        rw [show lU 70 = -1 from rfl, if_pos ⟨by omega, by omega⟩, if_neg (by decide), hj]; rfl
      refine ⟨x + 1 + (n : Int) + -1 - (j : Int), (aek ⟨by omega, by omega⟩).trans (oQ (key := 70) hb), by omega, by omega, ?_⟩
      rw [← hjc, List.getD_eq_getElem?_getD, List.getD_eq_getElem?_getD, List.getElem?_reverse (by rw [← List.length_reverse, hlen]; omega), List.length_take, List.getElem?_take, if_pos (by omega)]
      congr 2; omega
end
section
variable {w0 w : World} {F : HP} {v lv : Value} {l line : List Int} {x c n key a : Int} {b d : Bool}
theorem Xf (H : V w0 w F) (hr : jq w0 F .i32 v l) : gJ prog 78 #[v, .int .i32 c] w fun u w' => ∃ i, u = .int .i64 i ∧ (0 ≤ i ↔ c ∈ l) ∧ V w0 w' F := by
 have Vm : l.length ≤ 9223372036854775807 := by have := (hr _ H).open; obtain ⟨a, c, e, h3, h4, _⟩ := this; omega
 refine nT func78 ntmps78 ?_
 refine jr O (aP (bT O (aV (iQ (hr _ (H)) ay O) (bP O (iJ (aY ?_))))))
 refine fF [(0, _), (1, _), (7, _)] (fun (k : Nat) => [(8, .int .i64 (k : Int))]) (fun (k : Nat) W => (k ≤ l.length ∧ ∀ j, j < k → ¬ c = l.getD j 0) ∧ V w0 W F) (fun (k : Nat) => l.length - k) (0) uH lG ⟨⟨by omega, fun j h => by omega⟩, H⟩ ?_
 rintro k w1 ⟨⟨hk, hno⟩, HL⟩
 dsimp only [List.cons_append, List.nil_append]
 refine iH (aV (gY O O) (pK (bI O (fun h1 => ?_) (fun h1 => ?_))))
 ·(try simp only [Z] at h1)
  refine gq (aP (aY (bT O (gI O (bT O (jG O O ?_))))))
  obtain ⟨bv, ov, cv, ev⟩ := fB.pJ (hr _ (HL)) (by omega)
  cases ev
  refine aV (dD ay bQ O O (by omega)) ?_
  refine aV (eG (bY aZ O) O (by first | exact fB.kX (hr _ (HL)) (by omega) | exact fB.uQ (hr _ (HL)) (by omega) | exact fB.uG (hr _ (HL)) (by omega))) ?_
  refine aV (dR O O) (je O (fun h2 => ?_) (fun h2 => ?_))
  ·(try simp only [Z] at h2)
   have heq : c = l.getD k 0 := h2
   refine bT O (fC O (aT (aF (aF (aT (aF (dH results78 O ?_)))))))
   exact ⟨_, O, ⟨fun _ => by rw [heq, List.getD_eq_getElem?_getD, List.getElem?_eq_getElem (by omega)]; exact List.getElem_mem _, fun _ => by omega⟩, HL⟩
  ·(try simp only [Z] at h2)
   have hne : ¬ c = l.getD k 0 := h2
   refine bZ (aJ (aX (aC (aV (fQ O O (by omega)) (bP O (bM ?_))))))
   refine dK (k + 1) ?_ ?_ ?_ ?_
   ·exact lG
   ·exact uH
   ·(try dsimp only)
    first | done | exact ⟨⟨by omega, fun j h => if e : j = k then (by rw [e]; exact hne) else hno j (by omega)⟩, HL⟩
   ·(try dsimp only); omega
 ·(try simp only [Z] at h1)
  refine dB (aI (aI (bf (aX (jL O (dH results78 O ?_))))))
  exact ⟨_, rfl, ⟨fun h => (by omega), fun h => by obtain ⟨j, hj, e⟩ := List.getElem_of_mem h; exact absurd (by rw [List.getD_eq_getElem?_getD, List.getElem?_eq_getElem hj]; exact e.symm) (hno j (by omega))⟩, HL⟩
theorem JU (H : V w0 w F) (hr : jq w0 F .i32 v l) : gJ prog 26 #[v, .int .i32 c] w fun u w' => u = .bool (decide (c ∈ l)) ∧ V w0 w' F := by
  refine nT func26 ntmps26 ?_
  refine jr O (bT O (bP O (dY O func78 (Xf H (fun W HW => hr _ (HW))) ?_)))
  rintro _ w1 ⟨i1, rfl, hi1, H1⟩
  refine aV (ku O O) (fC O (dH results26 O ?_))
  exact ⟨congrArg Value.bool (decide_eq_decide.2 (by assumption)), H1⟩
theorem zi {P : World → Prop} {f : FuncId} {vs : Array Value} (e : jf l x key c n = (a, b, d)) (h : gJ prog f vs w fun u w' => u = PN (jf l x key c n) ∧ P w') : gJ prog f vs w fun u w' => u = .tuple #[.int .i64 a, .bool b, .bool d] ∧ P w' :=
  h.mono fun u w' h => ⟨h.1.trans (by rw [e]; rfl), h.2⟩
theorem Ls (hT : wS w) (g : fB w .i32 lv line) (hx : ¬ (0 ≤ x ∧ x < line.length)) :
    gJ prog 6 #[lv, .int .i64 x, .int .i32 c] w fun v w' => v = .bool true ∧ Below w.heap.size w w' := by
  obtain ⟨F, H⟩ : ∃ F, V w w F := ⟨_, V.start w⟩
  have hv : jq w F .i32 lv line := jq.CO g F
  refine CQ func6 ntmps6 ?_
  refine jr O (aP (bT O (aV (gY O O) (jF O (fun h1 => ?_) (fun h1 => ?_)))))
  · (try simp only [Z] at h1)
    refine bJ (bJ (bJ (bJ (jE O O (bP O (bJ (bJ (jE O O (iJ (Il (iH (dY O func13 (AQ H hT) ?_))))))))))))
    rintro _ w1 ⟨rfl, H1⟩
    refine fC O (aF (dH results6 O ?_))
    exact ⟨O, H1.base⟩
  · (try simp only [Z] at h1)
    refine bC (bP O (bC (bP O (bC (aV (iQ (hv _ (H)) ay O) (bC (aV (ku O O) (iL O O (jF O (fun h2 => ?_) (fun h => by exfalso; (try simp only [Z] at h); omega))))))))))
    (try simp only [Z] at h2)
    refine bJ (bJ (jE O O (iJ (Il (iH (dY O func13 (AQ H hT) ?_))))))
    rintro _ w2 ⟨rfl, H2⟩
    refine fC O (aF (dH results6 O ?_))
    exact ⟨O, H2.base⟩
theorem OA (hT : wS w) (g : fB w .i32 lv line) (hl : line.length ≤ 4611686018427387904) (hx : 0 ≤ x ∧ x < line.length) (h : (jf line x 102 c 1).2.2 = false) :
    gJ prog 6 #[lv, .int .i64 x, .int .i32 c] w fun v w' => v = .bool true ∧ Below w.heap.size w w' := by
  obtain ⟨F, H⟩ : ∃ F, V w w F := ⟨_, V.start w⟩
  have hv : jq w F .i32 lv line := jq.CO g F
  obtain ⟨hq, hc⟩ := YK hx h
  refine CQ func6 ntmps6 ?_
  refine jr O (aP (bT O (aV (gY O O) (jF O (fun h => by exfalso; (try simp only [Z] at h); omega) (fun h1 => ?_)))))
  (try simp only [Z] at h1)
  refine bC (bP O (bC (bP O (bC (aV (iQ (hv _ (H)) ay O) (bC (aV (ku O O) (iL O O (jF O (fun h => by exfalso; (try simp only [Z] at h); omega) (fun h2 => ?_))))))))))
  (try simp only [Z] at h2)
  refine bC (dY O func13 (AQ H hT) ?_)
  rintro _ w1 ⟨rfl, H1⟩
  refine bC (aV (kT O) (iL O O (iJ (Jp O (fun h3 => ?_)))))
  (try simp only [Z] at h3)
  refine gq (bT O (jG O O (dY O func11 (zi hq (pq H1 (fun W HW => hv _ (HW)) hT (by omega) (by omega))) ?_)))
  rintro _ w2 ⟨rfl, H2⟩
  refine bP O (qQ O O (qQ O O (qQ O O (fV O (fV O (wu O (bT O (aV (kT O) (iJ (wcE O (fun h4 => ?_)))))))))))
  (try simp only [Z] at h4)
  refine bT O (aV (kT O) (xsE O (fun h5 => ?_)))
  (try simp only [Z] at h5)
  refine bC (bP O (bC (aV (dR O O) (jE O O (xsE O (fun h6 => ?_))))))
  (try simp only [Z] at h6)
  refine bC (bP O (bC (bP O (bC (aV (fQ O O (by omega)) (bC (aV (tN (hv _ (H2)) ay bQ O O O (by omega)) ?_)))))))
  refine bC (bP O (bC (dY O func26 (JU H2 (fun W HW => fB.from (hv _ (HW)) (by omega))) ?_)))
  rintro _ w3 ⟨rfl, H3⟩
  refine bC ?_
  refine aV (DU (kT O) (by simp [hc])) ?_
  refine jE O O (fC O (aF (dH results6 O ?_)))
  exact ⟨O, H3.base⟩
theorem Lu (hT : wS w) (g : fB w .i32 lv line) (hl : line.length ≤ 4611686018427387904) (hx : 0 ≤ x ∧ x < line.length) (h : (jf line x 102 c 1).2.2 = true) :
  gJ prog 6 #[lv, .int .i64 x, .int .i32 c] w fun v w' => v = .bool true ∧ Below w.heap.size w w' := by
 obtain ⟨F, H⟩ : ∃ F, V w w F := ⟨_, V.start w⟩
 have hv : jq w F .i32 lv line := jq.CO g F
 obtain ⟨i, hq, d1, d2, d3, d4, ht, j, hb, d5, d6, d7⟩ := Xd hx h
 refine CQ func6 ntmps6 ?_
 refine jr O (aP (bT O (aV (gY O O) (jF O (fun h => by exfalso; (try simp only [Z] at h); omega) (fun h1 => ?_)))))
 (try simp only [Z] at h1)
 refine bC (bP O (bC (bP O (bC (aV (iQ (hv _ (H)) ay O) (bC (aV (ku O O) (iL O O (jF O (fun h => by exfalso; (try simp only [Z] at h); omega) (fun h2 => ?_))))))))))
 (try simp only [Z] at h2)
 refine bC (dY O func13 (AQ H hT) ?_)
 rintro _ w1 ⟨rfl, H1⟩
 refine bC (aV (kT O) (iL O O (iJ (Jp O (fun h3 => ?_)))))
 (try simp only [Z] at h3)
 refine gq (bT O (jG O O (dY O func11 (zi hq (pq H1 (fun W HW => hv _ (HW)) hT (by omega) (by omega))) ?_)))
 rintro _ w2 ⟨rfl, H2⟩
 refine bP O (qQ O O (qQ O O (qQ O O (fV O (fV O (wu O (bT O (aV (kT O) (iJ (Jp O (fun h4 => ?_)))))))))))
 (try simp only [Z] at h4)
 refine gq (aP (bT O (bP O (aV (oN O O) (jF O (fun h => by exfalso; (try simp only [Z] at h); omega) (fun h5 => ?_))))))
 (try simp only [Z] at h5)
 refine bC (bP O (bC (bP O (bC ?_))))
 obtain ⟨blv, olv, clv, elv⟩ := fB.pJ (hv _ (H2)) (by omega)
 cases elv
 refine aV (dD ay bQ O O (by omega)) (bC ?_)
 refine aV (eG (bY aZ O) O (by first | exact fB.kX (hv _ (H2)) (by omega) | exact fB.uQ (hv _ (H2)) (by omega) | exact fB.uG (hv _ (H2)) (by omega))) ?_
 refine bC (bP O (bC (aV (iU O O) (iL O O (jF O (fun h => by exfalso; (try simp only [Z] at h); exact h d3) (fun h6 => ?_))))))
 (try simp only [Z] at h6)
 refine bC (bP O (bC (aV (kT O) (iL O O (XB O (fun h7 => ?_))))))
 (try simp only [Z] at h7)
 refine bC (bP O (bC (bP O (bC (aV (fQ O O (by omega)) (bC (bP O (bC (aV (tN (hv _ (H2)) ay bQ O O O (by omega)) ?_)))))))))
 refine bC (bP O (bC (dY O func26 (JU H2 (fun W HW => fB.cut (hv _ (HW)) (by omega) (by omega))) ?_)))
 rintro _ w3 ⟨rfl, H3⟩
 refine iL O O (je O (fun h => by exfalso; (try simp only [Z] at h); exact d4 h) (fun h8 => ?_))
 (try simp only [Z] at h8)
 refine gq (bT O (jG O O (bP O (aV (dD ay bQ O O (by omega)) ?_))))
 refine aV (eG (bY aZ O) O (by first | exact fB.kX (hv _ (H3)) (by omega) | exact fB.uQ (hv _ (H3)) (by omega) | exact fB.uG (hv _ (H3)) (by omega))) ?_
 refine dY O func11 (zi hb (pq H3 (fun W HW => hv _ (HW)) hT (by omega) (by omega))) ?_
 rintro _ w4 ⟨rfl, H4⟩
 refine bP O (qQ O O (qQ O O (qQ O O (fV O (fV O (gI O (bT O (jG O O (dY O func11 (zi ht (pq H4 (fun W HW => hv _ (HW)) hT (by omega) (by omega))) ?_)))))))))
 rintro _ w5 ⟨rfl, H5⟩
 refine bP O (qQ O O (qQ O O (qQ O O (fV O (fV O (wu O ?_))))))
 have Zt := H5.drew
 have jV := V.kp (Zt)
 refine yw [10, 14] jV O (jB 0 O jV O ?_)
 refine vZ 1 O O (by kernel_rfl) (by kernel_rfl) jV (jW O) (fun h9 => ?_) (fun h => by exfalso; (try simp only [Z] at h); simp at h)
 (try simp only [Z] at h9)
 refine dI 2 O O O (by kernel_rfl) (by kernel_rfl) jV (fun _ => pY O) (jW O) ?_
 refine dI 3 O O O (by kernel_rfl) (by kernel_rfl) jV (fun _ => pY O) (jW O) ?_
 refine dI 4 O O O (by kernel_rfl) (by kernel_rfl) jV (fun _ => ku O O) (jW O) ?_
 refine ji 5 O jV (fun _ => tC O O) ?_
 refine vZ 6 O O (by kernel_rfl) (by kernel_rfl) jV (jW O) (fun h10 => ?_) (fun h => by exfalso; (try simp only [Z] at h); omega)
 (try simp only [Z] at h10)
 refine dI 7 O O O (by kernel_rfl) (by kernel_rfl) jV (fun _ => pY O) (jW O) ?_
 refine dI 8 O O O (by kernel_rfl) (by kernel_rfl) jV (fun _ => pY O) (jW O) ?_
 refine dI 9 O O O (by kernel_rfl) (by kernel_rfl) jV (fun _ => dD ay bQ O O (by omega)) (jW O) ?_
 refine tJ 10 O O O (by kernel_rfl) (by kernel_rfl) jV (by decide) (fun W hW => eG (bY aZ O) O (by first | exact fB.kX (hv _ ((Kp.h hW))) (by omega) | exact fB.uQ (hv _ ((Kp.h hW))) (by omega) | exact fB.uG (hv _ ((Kp.h hW))) (by omega))) (jW O) ?_
 refine dI 11 O O O (by kernel_rfl) (by kernel_rfl) jV (fun _ => pY O) (jW O) ?_
 refine dI 12 O O O (by kernel_rfl) (by kernel_rfl) jV (fun _ => pY O) (jW O) ?_
 refine dI 13 O O O (by kernel_rfl) (by kernel_rfl) jV (fun _ => dD ay bQ O O (by omega)) (jW O) ?_
 refine tJ 14 O O O (by kernel_rfl) (by kernel_rfl) jV (by decide) (fun W hW => eG (bY aZ O) O (by first | exact fB.kX (hv _ ((Kp.h hW))) (by omega) | exact fB.uQ (hv _ ((Kp.h hW))) (by omega) | exact fB.uG (hv _ ((Kp.h hW))) (by omega))) (jW O) ?_
 refine dI 15 O O O (by kernel_rfl) (by kernel_rfl) jV (fun _ => dR O O) (jW O) ?_
 refine ji 16 O jV (fun _ => tC O O) ?_
 refine vZ 17 O O (by kernel_rfl) (by kernel_rfl) jV (jW O) (fun h11 => ?_) (fun h => by exfalso; (try simp only [Z] at h); exact h d7)
 (try simp only [Z] at h11)
 refine dI 18 O O O (by kernel_rfl) (by kernel_rfl) jV (fun _ => pY O) (jW O) ?_
 refine ji 19 O jV (fun _ => tC O O) ?_
 refine vZ 20 O O (by kernel_rfl) (by kernel_rfl) jV (jW O) (fun h12 => ?_) (fun h => by exfalso; (try simp only [Z] at h); simp at h)
 (try simp only [Z] at h12)
 refine dI 21 O O O (by kernel_rfl) (by kernel_rfl) jV (fun _ => pY O) (jW O) ?_
 refine dI 22 O O O (by kernel_rfl) (by kernel_rfl) jV (fun _ => pY O) (jW O) ?_
 refine dI 23 O O O (by kernel_rfl) (by kernel_rfl) jV (fun _ => kU O O (by omega)) (jW O) ?_
 refine dI 24 O O O (by kernel_rfl) (by kernel_rfl) jV (fun _ => DU (dR O O) (by exact beq_iff_eq.2 O)) (jW O) ?_
 refine ji 25 O jV (fun _ => tC O O) (ji 26 O jV (fun _ => dN O) (qU (aX (lS (dH results6 O ?_)))))
 exact ⟨O, Zt.base⟩
theorem Xg (hT : wS w) (g : fB w .i32 lv line) (hl : line.length ≤ 4611686018427387904) :
    gJ prog 6 #[lv, .int .i64 x, .int .i32 c] w fun v w' => v = .bool true ∧ Below w.heap.size w w' := by
  by_cases hx : 0 ≤ x ∧ x < line.length
  · cases h : (jf line x 102 c 1).2.2 with
    | false => exact OA hT g hl hx h
    | true => exact Lu hT g hl hx h
  · exact Ls hT g hx
end
end Go.Proofs.YtpdeedplgmbopaaGreatDoor
end
section
set_option maxRecDepth 100000
namespace Go.Proofs.YtpdeedplgmbopaaGreatDoor
open Go.ChangeShapes Go.WideShapes Go.ChangeAt Go.RowKit
set_option maxRecDepth 100000 in
theorem Ij (os : Os) (started : os.Started) (H : Type) (enc : TypeId × Value → H) :
    ReturnsInHanded {} Tryz.checked os 6 .any (fun w args => (Rows.viFindsSpec.pre enc Tryz.prog Tryz.f6 Rows.viFindsRow.domain false w args ∧ laidMetH Tryz.prog QF w) ∧ sizedMet enc Tryz.prog Tryz.f6 (OpenSpec.ofChange Rows.viFindsSpec) false w args) (Rows.viFindsSpec.post enc Tryz.prog Tryz.f6 false true false false) := by
  refine Ir (C := Tryz.checked) (tb := 4) _ own laid started (by kernel_rfl) Tryz.func6 (congrArg Array.toList Tryz.params6) rfl Tryz.underlying4 rfl (by kernel_rfl) (fun ds hd => ?_)
    (ChangeSpec.witness_shaped (enc := enc) (C := Tryz.checked) (os := os) (X := fun w _ => laidMetH Tryz.prog QF w) false (World.doorLaid Tryz.prog 400 os) #[.slice none 0 0, .int .i64 0, .int .i32 0] 8 rfl (World.shaped_of_RefB (by kernel_rfl) (by kernel_rfl)) (by kernel_rfl) (by kernel_rfl) (by kernel_rfl) (Ut os _)) ?_
  · obtain ⟨a0, a1, a2, rfl⟩ := RU hd
    rfl
  intro W args hL hin
  have hT := XH hL
  obtain ⟨v1, v2, v3, rfl, ⟨⟨_, o1⟩, i1⟩, ⟨⟨_, o2⟩, i2⟩, ⟨⟨_, o3⟩, i3⟩⟩ := hin.three
  obtain ⟨a1, n1, c1, rfl⟩ := okWide_slice Tryz.underlying22 o1
  obtain ⟨x, rfl⟩ := okWide_int Tryz.underlying3 o2
  obtain ⟨r, rfl⟩ := okWide_int Tryz.underlying21 o3
  obtain ⟨v, l, e1, g1, bl, -⟩ := i1.ints Tryz.underlying22 Tryz.underlying21 (by kernel_rfl)
  obtain rfl := List.singleton_inj.1 e1
  rw [show Tryz.prog.bytesOf 21 = 4 from by kernel_rfl, show reachBytes = 140737488351232 from rfl] at bl
  exact Xg hT g1 (by omega)
theorem Ik : Rows.ViFindsSaid :=
  OpenClaim.holds_of_wide 6 Tryz.f6 rfl rfl rfl rfl rfl rfl rfl ⟨rfl, rfl, rfl, rfl, rfl⟩ rfl rfl rfl rfl rfl (by kernel_rfl) Tryz.func6 (by kernel_rfl)
    (of_decide_eq_true (by kernel_rfl)) (by unfold Func.isWrapper; first | (rw [if_pos (by decide +kernel)]; kernel_rfl) | (rw [if_neg (by decide +kernel)]; exact ⟨rfl, rfl⟩))
    (fun os started H enc _ => Ij os started H enc)
theorem viFinds_card : Rows.ViFindsCardSaid :=
  Claim7.holds_tied_plain_at .later [] [.widerDeep, .widerDeep] true (true, "99a5bb9fd978799d876f5c744ef21e54f7b6a4f05c2918ab827c141780b2be91") false
    Ik (fun _ h => by cases h) (by kernel_rfl) (fun _ h => by cases h) viFinds_row_tie rfl ⟨rfl, rfl⟩ (by kernel_rfl) rfl
    (fun f fn hf hfn => by
      obtain rfl : f = 6 := Option.some.inj ((show Tryz.prog.funcNamed "lanyard/lanyardlaw19.ViFinds" = some 6 by kernel_rfl).symm.trans hf) |>.symm
      obtain rfl : fn = Tryz.f6 := (Option.some.inj (Tryz.func6.symm.trans hfn)).symm
      exact ⟨by kernel_rfl, fun j t ht => by
        rw [Tryz.params6] at ht
        have hm : t ∈ [22, 3, 21] := by simpa using Array.mem_of_getElem? ht
        have hall : ([22, 3, 21].all fun u => !Tryz.prog.wantsStandIn u) = true := by kernel_rfl
        exact (show Tryz.prog.wantsStandIn t = false by simpa using List.all_eq_true.1 hall t hm)⟩)
    (by kernel_rfl)
end Go.Proofs.YtpdeedplgmbopaaGreatDoor
end
