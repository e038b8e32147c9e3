import Derived.Test.YtgmpclifphbjkaaGreatDoorZ2
import Derived.Test.YtgmpclifphbjkaaGreatDoorZ7
import Derived.Test.YtgmpclifphbjkaaGreatDoorZ4
import Derived.Test.YtgmpclifphbjkaaGreatDoorZ3
import Derived.Test.YtgmpclifphbjkaaGreatDoorZ5
set_option linter.unusedSimpArgs false
set_option linter.unusedVariables false
/- Texts of mine, joined, their names in short: Ring2 Ring3 RingAny LL Flat Undo1 Undo2 LitS. -/
section
namespace Go.Proofs.YtgmpclifphbjkaaGreatDoor
open Go.RowKit
open _root_.Go.Proofs.Tryz
def vI (E : List (List Int)) (place : Nat) (way : Int) (l : List Int) : Int × List (List Int) × Nat :=
  if way < 0 ∨ 2 < way then (1, E, place)
  else if 1024 < l.length then (3, E, place)
  else if way ≠ 0 ∧ 0 < E.length then
    if 1024 < l.length + (E.getD 0 []).length then (3, E, place)
    else (0, (if way = 1 then E.getD 0 [] ++ l else l ++ E.getD 0 []) :: E.tail, 0)
  else if way = 0 ∧ l.length = 0 then (0, E, place)
  else (0, (l :: E).take 60, 0)
theorem CS {I : Hp} {s : List Value} {h : Nat} {l : List Int} {v : Value} {E : List (List Int)} (hs : s.length = 60) (hh : h < 60) (hE : E.length ≤ 60) (h0 : 0 < E.length) (hS : J7 I s h E) (hv : y8 I .i32 v l) :
    J7 I (s.set h v) h (l :: E.tail) := by
  intro i hi
  have hi' : i < E.length := by simp at hi; omega
  cases i with
  | zero =>
    have e : (h + 0) % 60 = h := by omega
    rw [e, List.getD_eq_getElem?_getD, List.getElem?_set_self (by omega)]
    exact hv
  | succ i =>
    have hne : ¬ h = (h + (i + 1)) % 60 := by omega
    rw [List.getD_eq_getElem?_getD, List.getElem?_set_ne hne, ← List.getD_eq_getElem?_getD]
    have := hS (i + 1) hi'
    simpa [List.getD_eq_getElem?_getD] using this
section
variable {w0 w : World} {F : HP} {p place : Nat} {E : List (List Int)} {v : Value} {l : List Int} {way : Int}
theorem qJ (h0 : 0 < E.length) (x : List Int) : (x :: E.tail).length = E.length := by simp; omega
theorem F9 (H : aB w0 w (bY p E place • F)) (hr : iU w0 F .i32 v l) (hw : way < 0 ∨ 2 < way) :
  fQ prog 116 #[.pointer (some ⟨p, 0, none⟩), .int .i64 way, v] w fun v' w' => v' = .int .i64 1 ∧ aB w0 w' (bY p E place • F) := by
 obtain ⟨s, h, hs, hh, hE, hp, hm, ho, H1⟩ := H.ring
 have hb := H1.get.2
 refine gX func116 ntmps116 ?_
 dsimp only [bg, Nat.reduceAdd]
 refine ay (ah (aV rfl (aA (aj (ay (ay (ah (aO rfl (dw rfl func135 (iK _ hb uM) ?_)))))))))
 rintro _ _ ⟨rfl, rfl⟩
 refine aA (aj (qN (aS (aj (ay (ay (ah (aO rfl (aU (dL rfl rfl) (jo rfl (fun h1 => ?_) (fun h1 => ?_)))))))))))
 ·(try simp only [aG] at h1)
  try (exfalso; first | contradiction | omega)
  all_goals
   refine bI (bI (jO rfl rfl (aA (aj (yL (ay (ah (aV rfl (aA (aj (aJ (aK (aP (.inl rfl) results116 rfl ?_)))))))))))))
   exact ⟨rfl, H⟩
 ·(try simp only [aG] at h1)
  try (exfalso; first | contradiction | omega)
  all_goals
   refine bD (aO rfl (bD (aU (dQ rfl rfl) (jr rfl rfl (aA (aj (aH rfl (fun h2 => ?_) (fun h => by exfalso; (try simp only [aG] at h); first | contradiction | omega | (simp at h <;> omega)))))))))
   (try simp only [aG] at h2)
   refine ay (ah (aV rfl (aA (aj (aJ (aK (aP (.inl rfl) results116 rfl ?_)))))))
   exact ⟨rfl, H⟩
theorem Es (H : aB w0 w (bY p E place • F)) (hr : iU w0 F .i32 v l) (hw : 0 ≤ way ∧ way ≤ 2) (hl : 1024 < l.length) :
  fQ prog 116 #[.pointer (some ⟨p, 0, none⟩), .int .i64 way, v] w fun v' w' => v' = .int .i64 3 ∧ aB w0 w' (bY p E place • F) := by
 obtain ⟨s, h, hs, hh, hE, hp, hm, ho, H1⟩ := H.ring
 have hb := H1.get.2
 obtain ⟨a, c, rfl, _, _, _⟩ := (hr w H.right).open
 refine gX func116 ntmps116 ?_
 dsimp only [bg, Nat.reduceAdd]
 refine ay (ah (aV rfl (aA (aj (ay (ay (ah (aO rfl (dw rfl func135 (iK _ hb uM) ?_)))))))))
 rintro _ _ ⟨rfl, rfl⟩
 refine aA (aj (qN (aS (aj (ay (ay (ah (aO rfl (aU (dL rfl rfl) (jo rfl (fun h => by exfalso; (try simp only [aG] at h); first | contradiction | omega | (simp at h <;> omega)) (fun h1 => ?_)))))))))))
 (try simp only [aG] at h1)
 refine bD (aO rfl (bD (aU (dQ rfl rfl) (jr rfl rfl (aA (aj (aH rfl (fun h => by exfalso; (try simp only [aG] at h); first | contradiction | omega | (simp at h <;> omega)) (fun h2 => ?_))))))))
 (try simp only [aG] at h2)
 refine aS (aj (ay (ah (aO rfl (aU (bZ rfl rfl) (jo rfl (fun h3 => ?_) (fun h3 => ?_)))))))
 ·(try simp only [aG] at h3)
  try (exfalso; first | contradiction | omega)
  all_goals
   refine bD (aO rfl (bD (bH rfl (bD (aZ 62 underlying155 rfl sizeOf3 rfl (bD (cO underlying3 rfl hb (jU hs) (bD (aU (dQ rfl rfl) (jO rfl rfl (aV rfl (aA (aj (ay (bf (ay (ah (aO rfl (aU (gK underlying22 rfl) (aU (dQ rfl rfl) (jo rfl (fun h4 => ?_) (fun h => by exfalso; (try simp only [aG] at h); first | contradiction | omega | (simp at h <;> omega)))))))))))))))))))))))
   (try simp only [aG] at h4)
   refine bI (bI (oJ (oJ (oJ (oJ (oJ (oJ (oJ (bI (jO rfl rfl (aV rfl (aA (aj (yL (ay (ah (aV rfl (aA (aj (aJ (aW (aK (aP (.inl rfl) results116 rfl ?_)))))))))))))))))))))))
   exact ⟨rfl, H⟩
 ·(try simp only [aG] at h3)
  try (exfalso; first | contradiction | omega)
  all_goals
   refine bI (bI (bI (bI (bI (jr rfl rfl (aV rfl (aA (aj (ay (bf (ay (ah (aO rfl (aU (gK underlying22 rfl) (aU (dQ rfl rfl) (jo rfl (fun h5 => ?_) (fun h => by exfalso; (try simp only [aG] at h); first | contradiction | omega | (simp at h <;> omega))))))))))))))))))
   (try simp only [aG] at h5)
   refine bI (bI (oJ (oJ (oJ (oJ (oJ (oJ (oJ (bI (jO rfl rfl (aV rfl (aA (aj (yL (ay (ah (aV rfl (aA (aj (aJ (aW (aK (aP (.inl rfl) results116 rfl ?_)))))))))))))))))))))))
   exact ⟨rfl, H⟩
theorem AQ (H : aB w0 w (bY p E place • F)) (hr : iU w0 F .i32 v l) (hl : l.length = 0) :
  fQ prog 116 #[.pointer (some ⟨p, 0, none⟩), .int .i64 0, v] w fun v' w' => v' = .int .i64 0 ∧ aB w0 w' (bY p E place • F) := by
 obtain ⟨s, h, hs, hh, hE, hp, hm, ho, H1⟩ := H.ring
 have hb := H1.get.2
 obtain ⟨a, c, rfl, _, _, _⟩ := (hr w H.right).open
 refine gX func116 ntmps116 ?_
 dsimp only [bg, Nat.reduceAdd]
 refine ay (ah (aV rfl (aA (aj (ay (ay (ah (aO rfl (dw rfl func135 (iK _ hb uM) ?_)))))))))
 rintro _ _ ⟨rfl, rfl⟩
 refine aA (aj (qN (aS (aj (ay (ay (ah (aO rfl (aU (dL rfl rfl) (jo rfl (fun h => by exfalso; (try simp only [aG] at h); first | contradiction | omega | (simp at h <;> omega)) (fun h1 => ?_)))))))))))
 (try simp only [aG] at h1)
 refine bD (aO rfl (bD (aU (dQ rfl rfl) (jr rfl rfl (aA (aj (aH rfl (fun h => by exfalso; (try simp only [aG] at h); first | contradiction | omega | (simp at h <;> omega)) (fun h2 => ?_))))))))
 (try simp only [aG] at h2)
 refine aS (aj (ay (ah (aO rfl (aU (bZ rfl rfl) (jo rfl (fun h => by exfalso; (try simp only [aG] at h); first | contradiction | omega | (simp at h <;> omega)) (fun h3 => ?_)))))))
 (try simp only [aG] at h3)
 refine bI (bI (bI (bI (bI (jr rfl rfl (aV rfl (aA (aj (ay (bf (ay (ah (aO rfl (aU (gK underlying22 rfl) (aU (dQ rfl rfl) (jo rfl (fun h => by exfalso; (try simp only [aG] at h); first | contradiction | omega | (simp at h <;> omega)) (fun h4 => ?_)))))))))))))))))
 (try simp only [aG] at h4)
 refine bD (aO rfl (bD (aO rfl (bI (bI (bI (bI (bI (bI (bI (bD (jr rfl rfl (jr rfl rfl (aV rfl (aA (aj (qN (ay (ah (aO rfl (aU (dW rfl rfl) (jo rfl (fun h5 => ?_) (fun h => by exfalso; (try simp only [aG] at h); first | contradiction | omega | (simp at h <;> omega))))))))))))))))))))))))
 (try simp only [aG] at h5)
 refine bD (aO rfl (bD (aU (gK underlying22 rfl) (bD (aU (dW rfl rfl) (jO rfl rfl (aV rfl (aA (aj (aH rfl (fun h6 => ?_) (fun h => by exfalso; (try simp only [aG] at h); first | contradiction | omega | (simp at h <;> omega))))))))))))
 (try simp only [aG] at h6)
 refine ay (ah (aV rfl (aA (aj (aJ (aW (aK (aP (.inl rfl) results116 rfl ?_))))))))
 exact ⟨rfl, H⟩
theorem Gf (H : aB w0 w (bY p E place • F)) (hr : iU w0 F .i32 v l) (hw : 0 ≤ way ∧ way ≤ 2) (hl : l.length ≤ 1024) (hj : way = 0 ∨ E.length = 0) (hn : ¬ (way = 0 ∧ l.length = 0)) :
  fQ prog 116 #[.pointer (some ⟨p, 0, none⟩), .int .i64 way, v] w fun v' w' => v' = .int .i64 0 ∧ aB w0 w' (bY p ((l :: E).take 60) 0 • F) := by
 obtain ⟨s, h, hs, hh, hE, hp, hm, ho, H1⟩ := H.ring
 have hb := H1.get.2
 obtain ⟨a, c, hv, _, _, _⟩ := (hr w H.right).open
 subst hv
 refine gX func116 ntmps116 ?_
 dsimp only [bg, Nat.reduceAdd]
 refine ay (ah (aV rfl (aA (aj (ay (ay (ah (aO rfl (dw rfl func135 (iK _ hb uM) ?_)))))))))
 rintro _ _ ⟨rfl, rfl⟩
 refine aA (aj (qN (aS (aj (ay (ay (ah (aO rfl (aU (dL rfl rfl) (jo rfl (fun h => by exfalso; (try simp only [aG] at h); first | contradiction | omega | (simp at h <;> omega)) (fun h1 => ?_)))))))))))
 (try simp only [aG] at h1)
 refine bD (aO rfl (bD (aU (dQ rfl rfl) (jr rfl rfl (aA (aj (aH rfl (fun h => by exfalso; (try simp only [aG] at h); first | contradiction | omega | (simp at h <;> omega)) (fun h2 => ?_))))))))
 (try simp only [aG] at h2)
 refine aS (aj (ay (ah (aO rfl (aU (bZ rfl rfl) (jo rfl (fun h3 => ?_) (fun h3 => ?_)))))))
 ·(try simp only [aG] at h3)
  try (exfalso; first | contradiction | omega)
  all_goals
   refine bD (aO rfl (bD (bH rfl (bD (aZ 62 underlying155 rfl sizeOf3 rfl (bD (cO underlying3 rfl hb (jU hs) (bD ?_))))))))
   refine aU (Gz (dQ rfl rfl) (by first | (rw [decide_eq_true_eq]; omega) | (rw [decide_eq_false_iff_not]; omega) | (rw [beq_iff_eq]; omega) | (rw [beq_eq_false_iff_ne]; omega) | (rw [bne_iff_ne]; omega) | (rw [bne_eq_false_iff_eq]; omega) | (simp; done) | (simp; omega))) ?_
   refine jO rfl rfl (aV rfl (aA (aj (ay (bf (ay (ah (aO rfl (aU (gK underlying22 rfl) (aU (dQ rfl rfl) (jo rfl (fun h => by exfalso; (try simp only [aG] at h); first | contradiction | omega | (simp at h <;> omega)) (fun h4 => ?_))))))))))))
   (try simp only [aG] at h4)
   refine bD (aO rfl (bD (aO rfl (bI (bI (bI (bI (bI (bI (bI (bD (jr rfl rfl (jr rfl rfl (aV rfl (aA (aj (qN (ay (ah (aO rfl (aU (dW rfl rfl) (jo rfl (fun h5 => ?_) (fun h5 => ?_)))))))))))))))))))))))
   ·(try simp only [aG] at h5)
    try (exfalso; first | contradiction | omega)
    all_goals
     refine bD (aO rfl (bD (aU (gK underlying22 rfl) (bD (aU (dW rfl rfl) (jO rfl rfl (aV rfl (aA (aj (aH rfl (fun h => by exfalso; (try simp only [aG] at h); first | contradiction | omega | (simp at h <;> omega)) (fun h6 => ?_)))))))))))
     (try simp only [aG] at h6)
     refine ay (ah (aO rfl (aU (kM rfl) (aV rfl (aA (aj (aH rfl (fun h7 => ?_) (fun h7 => ?_))))))))
     ·(try simp only [aG] at h7)
      try (exfalso; first | contradiction | omega)
      all_goals
       refine ah (aO rfl (aO rfl (dw rfl func166 (qI H hr hl) ?_)))
       rintro _ w2 H7
       obtain ⟨s2, h2, hs2, hh2, hE2, hp2, hm2, ho2, H2⟩ := H7.ring
       refine aA (aQ (aj (ay (ah (aO rfl (bH rfl (aZ 63 underlying155 rfl sizeOf3 rfl (aI (dO H2 sizeOf3 rfl rfl rfl (by rw [je hs2]; decide)) ?_))))))))
       rintro _ w3 H8
       rw [show (Value.int .i64 0) = .int .i64 ((0 : Nat) : Int) from rfl, jk hs2] at H8
       refine aA (aj (ay (ah (aV rfl (aA (aj (aJ (aP (.inl rfl) results116 rfl ?_))))))))
       exact ⟨rfl, aB.pF hs2 hh2 hE2 hp2 hm2 ho2 H8⟩
     ·(try simp only [aG] at h7)
      try (exfalso; first | contradiction | omega)
      all_goals
       refine ay (ah (aO rfl (aU (dW rfl rfl) (aV rfl (aA (aj (aH rfl (fun h8 => ?_) (fun h8 => ?_))))))))
       ·(try simp only [aG] at h8)
        exfalso; first | contradiction | omega
       ·(try simp only [aG] at h8)
        exfalso; first | contradiction | omega
   ·(try simp only [aG] at h5)
    try (exfalso; first | contradiction | omega)
    all_goals
     refine bI (bI (bI (jr rfl rfl (aV rfl (aA (aj (qN (ay (ah (aO rfl (aU (kM rfl) (aV rfl (aA (aj (aH rfl (fun h9 => ?_) (fun h9 => ?_))))))))))))))))
     ·(try simp only [aG] at h9)
      try (exfalso; first | contradiction | omega)
      all_goals
       refine ah (aO rfl (aO rfl (dw rfl func166 (qI H hr hl) ?_)))
       rintro _ JE H7
       obtain ⟨s2, h2, hs2, hh2, hE2, hp2, hm2, ho2, H2⟩ := H7.ring
       refine aA (aQ (aj (ay (ah (aO rfl (bH rfl (aZ 63 underlying155 rfl sizeOf3 rfl (aI (dO H2 sizeOf3 rfl rfl rfl (by rw [je hs2]; decide)) ?_))))))))
       rintro _ P8 H8
       rw [show (Value.int .i64 0) = .int .i64 ((0 : Nat) : Int) from rfl, jk hs2] at H8
       refine aA (aj (ay (ah (aV rfl (aA (aj (aJ (aP (.inl rfl) results116 rfl ?_))))))))
       exact ⟨rfl, aB.pF hs2 hh2 hE2 hp2 hm2 ho2 H8⟩
     ·(try simp only [aG] at h9)
      try (exfalso; first | contradiction | omega)
      all_goals
       refine ay (ah (aO rfl (aU (dW rfl rfl) (aV rfl (aA (aj (aH rfl (fun h10 => ?_) (fun h10 => ?_))))))))
       ·(try simp only [aG] at h10)
        exfalso; first | contradiction | omega
       ·(try simp only [aG] at h10)
        exfalso; first | contradiction | omega
 ·(try simp only [aG] at h3)
  try (exfalso; first | contradiction | omega)
  all_goals
   refine bI (bI (bI (bI (bI (jr rfl rfl (aV rfl (aA (aj (ay (bf (ay (ah (aO rfl (aU (gK underlying22 rfl) (aU (dQ rfl rfl) (jo rfl (fun h => by exfalso; (try simp only [aG] at h); first | contradiction | omega | (simp at h <;> omega)) (fun h11 => ?_)))))))))))))))))
   (try simp only [aG] at h11)
   refine bD (aO rfl (bD (aO rfl (bI (bI (bI (bI (bI (bI (bI (bD (jr rfl rfl (jr rfl rfl (aV rfl (aA (aj (qN (ay (ah (aO rfl (aU (dW rfl rfl) (jo rfl (fun h12 => ?_) (fun h12 => ?_)))))))))))))))))))))))
   ·(try simp only [aG] at h12)
    try (exfalso; first | contradiction | omega)
    all_goals
     refine bD (aO rfl (bD (aU (gK underlying22 rfl) (bD (aU (dW rfl rfl) (jO rfl rfl (aV rfl (aA (aj (aH rfl (fun h => by exfalso; (try simp only [aG] at h); first | contradiction | omega | (simp at h <;> omega)) (fun h13 => ?_)))))))))))
     (try simp only [aG] at h13)
     refine ay (ah (aO rfl (aU (kM rfl) (aV rfl (aA (aj (aH rfl (fun h14 => ?_) (fun h14 => ?_))))))))
     ·(try simp only [aG] at h14)
      try (exfalso; first | contradiction | omega)
      all_goals
       refine ah (aO rfl (aO rfl (dw rfl func166 (qI H hr hl) ?_)))
       rintro _ Yu H7
       obtain ⟨s2, h2, hs2, hh2, hE2, hp2, hm2, ho2, H2⟩ := H7.ring
       refine aA (aQ (aj (ay (ah (aO rfl (bH rfl (aZ 63 underlying155 rfl sizeOf3 rfl (aI (dO H2 sizeOf3 rfl rfl rfl (by rw [je hs2]; decide)) ?_))))))))
       rintro _ Yv H8
       rw [show (Value.int .i64 0) = .int .i64 ((0 : Nat) : Int) from rfl, jk hs2] at H8
       refine aA (aj (ay (ah (aV rfl (aA (aj (aJ (aP (.inl rfl) results116 rfl ?_))))))))
       exact ⟨rfl, aB.pF hs2 hh2 hE2 hp2 hm2 ho2 H8⟩
     ·(try simp only [aG] at h14)
      try (exfalso; first | contradiction | omega)
      all_goals
       refine ay (ah (aO rfl (aU (dW rfl rfl) (aV rfl (aA (aj (aH rfl (fun h15 => ?_) (fun h15 => ?_))))))))
       ·(try simp only [aG] at h15)
        exfalso; first | contradiction | omega
       ·(try simp only [aG] at h15)
        exfalso; first | contradiction | omega
   ·(try simp only [aG] at h12)
    try (exfalso; first | contradiction | omega)
    all_goals
     refine bI (bI (bI (jr rfl rfl (aV rfl (aA (aj (qN (ay (ah (aO rfl (aU (kM rfl) (aV rfl (aA (aj (aH rfl (fun h16 => ?_) (fun h16 => ?_))))))))))))))))
     ·(try simp only [aG] at h16)
      try (exfalso; first | contradiction | omega)
      all_goals
       refine ah (aO rfl (aO rfl (dw rfl func166 (qI H hr hl) ?_)))
       rintro _ Y3 H7
       obtain ⟨s2, h2, hs2, hh2, hE2, hp2, hm2, ho2, H2⟩ := H7.ring
       refine aA (aQ (aj (ay (ah (aO rfl (bH rfl (aZ 63 underlying155 rfl sizeOf3 rfl (aI (dO H2 sizeOf3 rfl rfl rfl (by rw [je hs2]; decide)) ?_))))))))
       rintro _ w39 H8
       rw [show (Value.int .i64 0) = .int .i64 ((0 : Nat) : Int) from rfl, jk hs2] at H8
       refine aA (aj (ay (ah (aV rfl (aA (aj (aJ (aP (.inl rfl) results116 rfl ?_))))))))
       exact ⟨rfl, aB.pF hs2 hh2 hE2 hp2 hm2 ho2 H8⟩
     ·(try simp only [aG] at h16)
      try (exfalso; first | contradiction | omega)
      all_goals
       refine ay (ah (aO rfl (aU (dW rfl rfl) (aV rfl (aA (aj (aH rfl (fun h17 => ?_) (fun h17 => ?_))))))))
       ·(try simp only [aG] at h17)
        exfalso; first | contradiction | omega
       ·(try simp only [aG] at h17)
        exfalso; first | contradiction | omega
theorem Gg (H : aB w0 w (bY p E place • F)) (hr : iU w0 F .i32 v l) (hw : 0 < way ∧ way ≤ 2) (hl : l.length ≤ 1024) (hE0 : 0 < E.length) (hj : 1024 < l.length + (E.getD 0 []).length) :
  fQ prog 116 #[.pointer (some ⟨p, 0, none⟩), .int .i64 way, v] w fun v' w' => v' = .int .i64 3 ∧ aB w0 w' (bY p E place • F) := by
 obtain ⟨s, h, hs, hh, hE, hp, hm, ho, H1⟩ := H.ring
 have hb := H1.get.2
 obtain ⟨a, c, hv, _, _, _⟩ := (hr w H.right).open
 subst hv
 have hm0 : (E.getD 0 []).length ≤ 1024 := hm _ (by rw [List.getD_eq_getElem?_getD, List.getElem?_eq_getElem hE0]; simp)
 refine gX func116 ntmps116 ?_
 dsimp only [bg, Nat.reduceAdd]
 refine ay (ah (aV rfl (aA (aj (ay (ay (ah (aO rfl (dw rfl func135 (iK _ hb uM) ?_)))))))))
 rintro _ _ ⟨rfl, rfl⟩
 refine aA (aj (qN (aS (aj (ay (ay (ah (aO rfl (aU (dL rfl rfl) (jo rfl (fun h => by exfalso; (try simp only [aG] at h); first | contradiction | omega | (simp at h <;> omega)) (fun h1 => ?_)))))))))))
 (try simp only [aG] at h1)
 refine bD (aO rfl (bD (aU (dQ rfl rfl) (jr rfl rfl (aA (aj (aH rfl (fun h => by exfalso; (try simp only [aG] at h); first | contradiction | omega | (simp at h <;> omega)) (fun h2 => ?_))))))))
 (try simp only [aG] at h2)
 refine aS (aj (ay (ah (aO rfl (aU (bZ rfl rfl) (jo rfl (fun h3 => ?_) (fun h => by exfalso; (try simp only [aG] at h); first | contradiction | omega | (simp at h <;> omega))))))))
 (try simp only [aG] at h3)
 refine bD (aO rfl (bD (bH rfl (bD (aZ 62 underlying155 rfl sizeOf3 rfl (bD (cO underlying3 rfl hb (jU hs) (bD ?_))))))))
 refine aU (sJ (dQ rfl rfl) (by first | (rw [decide_eq_true_eq]; omega) | (rw [decide_eq_false_iff_not]; omega) | (rw [beq_iff_eq]; omega) | (rw [beq_eq_false_iff_ne]; omega) | (rw [bne_iff_ne]; omega) | (rw [bne_eq_false_iff_eq]; omega) | (simp; done) | (simp; omega))) ?_
 refine jO rfl rfl (aV rfl (aA (aj (ay (bf (ay (ah (aO rfl (aU (gK underlying22 rfl) (aU (dQ rfl rfl) (jo rfl (fun h => by exfalso; (try simp only [aG] at h); first | contradiction | omega | (simp at h <;> omega)) (fun h4 => ?_))))))))))))
 (try simp only [aG] at h4)
 refine bD (aO rfl (bD (aO rfl (bD (aO rfl (bD (aU (gK underlying22 rfl) (bD (aO rfl (bD (dw rfl func137 (qV (k := 0) hs hh (by omega) hb) ?_)))))))))))
 rintro _ w2 ⟨rfl, hD⟩
 obtain ⟨a0, c0, e0, _, _, _⟩ := ((H1.nH hD).right.yt (i := 0) hE0).open
 rw [e0]
 refine bD (aU (gK underlying22 rfl) (bD (aU (jB rfl rfl (by omega)) (bD ?_))))
 refine aU (sJ (dQ rfl rfl) (by first | (rw [decide_eq_true_eq]; omega) | (rw [decide_eq_false_iff_not]; omega) | (rw [beq_iff_eq]; omega) | (rw [beq_eq_false_iff_ne]; omega) | (rw [bne_iff_ne]; omega) | (rw [bne_eq_false_iff_eq]; omega) | (simp; done) | (simp; omega))) ?_
 refine bD (jO rfl rfl (jr rfl rfl (aV rfl (aA (aj (yL (ay (ah (aV rfl (aA (aj (aJ (aW (aK (aP (.inl rfl) results116 rfl ?_)))))))))))))))
 exact ⟨rfl, H.nH hD⟩
theorem Et (H : aB w0 w (bY p E place • F)) (hr : iU w0 F .i32 v l) (hw : 0 < way ∧ way ≤ 2) (hE0 : 0 < E.length) (hj : l.length + (E.getD 0 []).length ≤ 1024) :
    fQ prog 116 #[.pointer (some ⟨p, 0, none⟩), .int .i64 way, v] w fun v' w' => v' = .int .i64 0 ∧ aB w0 w' (bY p ((if way = 1 then E.getD 0 [] ++ l else l ++ E.getD 0 []) :: E.tail) 0 • F) := by
  obtain ⟨s, h, hs, hh, hE, hp, hm, ho, H⟩ := H.ring
  have hb := H.get.2
  obtain ⟨a, c, hv, _, _, _⟩ := (hr w H.right.right).open
  subst hv
  have hm0 : (E.getD 0 []).length ≤ 1024 := hm _ (by rw [List.getD_eq_getElem?_getD, List.getElem?_eq_getElem hE0]; simp)
  have abV := G9 (h := h) (n := E.length) (p := place) hs (i := (h + 0) % 60) (by omega)
  refine gX func116 ntmps116 ?_
  dsimp only [bg, Nat.reduceAdd]
  refine ay (ah (aV rfl (aA (aj (ay (ay (ah (aO rfl (dw rfl func135 (iK _ hb uM) ?_)))))))))
  rintro _ _ ⟨rfl, rfl⟩
  refine aA (aj (qN (aS (aj (ay (ay (ah (aO rfl (aU (dL rfl rfl) (jo rfl (fun h => by exfalso; (try simp only [aG] at h); first | contradiction | omega | (simp at h <;> omega)) (fun h1 => ?_)))))))))))
  (try simp only [aG] at h1)
  refine bD (aO rfl (bD (aU (dQ rfl rfl) (jr rfl rfl (aA (aj (aH rfl (fun h => by exfalso; (try simp only [aG] at h); first | contradiction | omega | (simp at h <;> omega)) (fun h2 => ?_))))))))
  (try simp only [aG] at h2)
  refine aS (aj (ay (ah (aO rfl (aU (bZ rfl rfl) (jo rfl (fun h3 => ?_) (fun h => by exfalso; (try simp only [aG] at h); first | contradiction | omega | (simp at h <;> omega))))))))
  (try simp only [aG] at h3)
  refine bD (aO rfl (bD (bH rfl (bD (aZ 62 underlying155 rfl sizeOf3 rfl (bD (cO underlying3 rfl hb (jU hs) (bD ?_))))))))
  refine aU (sJ (dQ rfl rfl) (by first | (rw [decide_eq_true_eq]; omega) | (rw [decide_eq_false_iff_not]; omega) | (rw [beq_iff_eq]; omega) | (rw [beq_eq_false_iff_ne]; omega) | (rw [bne_iff_ne]; omega) | (rw [bne_eq_false_iff_eq]; omega) | (simp; done) | (simp; omega))) ?_
  refine jO rfl rfl (aV rfl (aA (aj (ay (bf (ay (ah (aO rfl (aU (gK underlying22 rfl) (aU (dQ rfl rfl) (jo rfl (fun h => by exfalso; (try simp only [aG] at h); first | contradiction | omega | (simp at h <;> omega)) (fun h4 => ?_))))))))))))
  (try simp only [aG] at h4)
  refine bD (aO rfl (bD (aO rfl (bD (aO rfl (bD (aU (gK underlying22 rfl) (bD (aO rfl (bD (dw rfl func137 (qV (k := 0) hs hh (by omega) hb) ?_)))))))))))
  rintro _ w2 ⟨rfl, hD⟩
  obtain ⟨a0, c0, e0, _, _, _⟩ := ((H.nH hD).right.yt (i := 0) hE0).open
  rw [e0]
  have oP := H.nH hD
  refine bD (aU (gK underlying22 rfl) (bD (aU (jB rfl rfl (by omega)) (bD ?_))))
  refine aU (Gz (dQ rfl rfl) (by first | (rw [decide_eq_true_eq]; omega) | (rw [decide_eq_false_iff_not]; omega) | (rw [beq_iff_eq]; omega) | (rw [beq_eq_false_iff_ne]; omega) | (rw [bne_iff_ne]; omega) | (rw [bne_eq_false_iff_eq]; omega) | (simp; done) | (simp; omega))) ?_
  refine bD (jO rfl rfl (jr rfl rfl (aV rfl (aA (aj (qN (ay (ah (aO rfl (aU (dW rfl rfl) (jo rfl (fun h => by exfalso; (try simp only [aG] at h); first | contradiction | omega | (simp at h <;> omega)) (fun h5 => ?_))))))))))))
  (try simp only [aG] at h5)
  refine bI (bI (bI (jr rfl rfl (aV rfl (aA (aj (qN (ay (ah (aO rfl (aU (kM rfl) (aV rfl (aA (aj (aH rfl (fun h => by exfalso; (try simp only [aG] at h); first | contradiction | omega | (simp at h <;> omega)) (fun h6 => ?_))))))))))))))))
  (try simp only [aG] at h6)
  refine ay (ah (aO rfl (aU (dW rfl rfl) (aV rfl (aA (aj (aH rfl (fun h7 => ?_) (fun h7 => ?_))))))))
  · (try simp only [aG] at h7)
    try (exfalso; first | contradiction | omega)
    all_goals
      have hw1 : way = 1 := by omega
      refine kN (n := 14) [0, 1, 2, 3, 4, 5, 6, 7, 8, 9, 10, 11, 12, 13] (fun W => W.heap[p]? = some (.cells (bT s h E.length place) 155 (0, 0))) (by kernel_rfl) (by kernel_rfl) rfl ?_
      have hS0 : (fun W => W.heap[p]? = some (.cells (bT s h E.length place) 155 (0, 0))) (w2.drew) := oP.get.2
      have J8 := oP.drew
      refine fU 0 rfl hS0 rfl (fU 1 rfl hS0 rfl (iT 2 rfl hS0 rfl (dP 3 rfl hS0 61 underlying155 rfl sizeOf3 rfl (gQ 4 rfl hS0 (fun W hW => iI underlying3 rfl hW (vH hs)) (fU 5 rfl hS0 rfl (fU 7 rfl hS0 rfl (iT 10 rfl hS0 rfl (dP 11 rfl hS0 1 underlying155 rfl sizeOf153 rfl (jH 6 rfl (rU rfl func137 (qV (k := 0) hs hh (by omega) J8.get.2)) ?_)))))))))
      rintro _ w3 ⟨rfl, hD2⟩
      have yR := J8.nH hD2
      have hS3 : (fun W => W.heap[p]? = some (.cells (bT s h E.length place) 155 (0, 0))) w3 := yR.get.2
      refine Ar hS3 ?_
      refine jH 8 rfl (Ot (vs := [s.getD ((h + 0) % 60) undef, .slice a l.length c]) yR underlying43 sizeOf22 zeroValue22 rfl rfl rfl (by decide) (by rw [e0]; simp [Value.oneCell'])) ?_
      rintro _ w4 ⟨b2, rfl, H4⟩
      have hS4 : (fun W => W.heap[p]? = some (.cells (bT s h E.length place) 155 (0, 0))) w4 := H4.swap.get.2
      refine Ar hS4 ?_
      refine jH 9 rfl (rU rfl func167 (yh H4 (fun W HW => HW.right.right.yt (i := 0) hE0) hr.under.under.under (by omega))) ?_
      rintro u w5 H5
      have oQ := H5.FQ
      have hS5 : (fun W => W.heap[p]? = some (.cells (bT s h E.length place) 155 (0, 0))) w5 := oQ.get.2
      refine Ar hS5 ?_
      refine iJ 12 rfl hS5 (fun _ => oI underlying153 sizeOf22 rfl rfl (by omega)) ?_
      refine dB 13 rfl (by kernel_rfl) (dO oQ sizeOf22 rfl rfl H5.aT.one (by rw [je hs]; omega)) ?_
      rintro _ w6 DR
      rw [show (1 + ((h : Int)).toNat * 1) = 1 + h from by omega, uN hs hh] at DR
      have hs' : (s.set h u).length = 60 := by simp [hs]
      have ho' := IZ ho (u := u) (i := h) H5.aT.one
      refine Ea (by kernel_rfl) ?_
      refine mg (aQ (aj (ay (ah (aO rfl (bH rfl (aZ 63 underlying155 rfl sizeOf3 rfl (aI (dO DR sizeOf3 rfl rfl rfl (by rw [je hs']; decide)) ?_))))))))
      rintro _ w7 tY
      rw [show (Value.int .i64 0) = .int .i64 ((0 : Nat) : Int) from rfl, jk hs'] at tY
      have GZ := tY.swap.kT
      refine aA (aj (ay (ah (aV rfl (aA (aj (aJ (aP (.inl rfl) results116 rfl ?_))))))))
      refine ⟨rfl, aB.pF hs' hh (by rw [qJ hE0]; omega) (.inr rfl) ?_ ho' ?_⟩
      · intro e he
        rcases List.mem_cons.1 he with rfl | he
        · first | (rw [if_pos hw1, List.length_append]; omega) | (rw [if_neg (by omega), List.length_append]; omega)
        · exact hm e (List.mem_of_mem_tail he)
      · rw [qJ hE0]
        first | rw [if_pos hw1] | rw [if_neg (by omega)]
        exact (GZ.r4.swap.DF (qQ (fun I a b => CS hs hh hE hE0 b a) _)).FQ.right.swap
  · (try simp only [aG] at h7)
    try (exfalso; first | contradiction | omega)
    all_goals
      have hw2 : way = 2 := by omega
      refine kN (n := 14) [0, 1, 2, 3, 4, 5, 6, 7, 8, 9, 10, 11, 12, 13] (fun W => W.heap[p]? = some (.cells (bT s h E.length place) 155 (0, 0))) (by kernel_rfl) (by kernel_rfl) rfl ?_
      have hS0 : (fun W => W.heap[p]? = some (.cells (bT s h E.length place) 155 (0, 0))) (w2.drew) := oP.get.2
      have H6d := oP.drew
      refine fU 0 rfl hS0 rfl (fU 1 rfl hS0 rfl (iT 2 rfl hS0 rfl (dP 3 rfl hS0 61 underlying155 rfl sizeOf3 rfl (gQ 4 rfl hS0 (fun W hW => iI underlying3 rfl hW (vH hs)) (fU 5 rfl hS0 rfl (fU 6 rfl hS0 rfl (iT 10 rfl hS0 rfl (dP 11 rfl hS0 1 underlying155 rfl sizeOf153 rfl (jH 7 rfl (rU rfl func137 (qV (k := 0) hs hh (by omega) H6d.get.2)) ?_)))))))))
      rintro _ w8 ⟨rfl, hD2⟩
      have yR := H6d.nH hD2
      have hS8 : (fun W => W.heap[p]? = some (.cells (bT s h E.length place) 155 (0, 0))) w8 := yR.get.2
      refine Ar hS8 ?_
      refine jH 8 rfl (Ot (vs := [.slice a l.length c, s.getD ((h + 0) % 60) undef]) yR underlying43 sizeOf22 zeroValue22 rfl rfl rfl (by decide) (by rw [e0]; simp [Value.oneCell'])) ?_
      rintro _ w9 ⟨b2, rfl, H9⟩
      have hS9 : (fun W => W.heap[p]? = some (.cells (bT s h E.length place) 155 (0, 0))) w9 := H9.swap.get.2
      refine Ar hS9 ?_
      refine jH 9 rfl (rU rfl func167 (yh H9 hr.under.under.under (fun W HW => HW.right.right.yt (i := 0) hE0) (by omega))) ?_
      rintro u w10 oP
      have oQ := oP.FQ
      have Y4 : (fun W => W.heap[p]? = some (.cells (bT s h E.length place) 155 (0, 0))) w10 := oQ.get.2
      refine Ar Y4 ?_
      refine iJ 12 rfl Y4 (fun _ => oI underlying153 sizeOf22 rfl rfl (by omega)) ?_
      refine dB 13 rfl (by kernel_rfl) (dO oQ sizeOf22 rfl rfl oP.aT.one (by rw [je hs]; omega)) ?_
      rintro _ FT DR
      rw [show (1 + ((h : Int)).toNat * 1) = 1 + h from by omega, uN hs hh] at DR
      have hs' : (s.set h u).length = 60 := by simp [hs]
      have ho' := IZ ho (u := u) (i := h) oP.aT.one
      refine Ea (by kernel_rfl) ?_
      refine mg (aQ (aj (ay (ah (aO rfl (bH rfl (aZ 63 underlying155 rfl sizeOf3 rfl (aI (dO DR sizeOf3 rfl rfl rfl (by rw [je hs']; decide)) ?_))))))))
      rintro _ w12 tY
      rw [show (Value.int .i64 0) = .int .i64 ((0 : Nat) : Int) from rfl, jk hs'] at tY
      have GZ := tY.swap.kT
      refine aA (aj (ay (ah (aV rfl (aA (aj (aJ (aP (.inl rfl) results116 rfl ?_))))))))
      refine ⟨rfl, aB.pF hs' hh (by rw [qJ hE0]; omega) (.inr rfl) ?_ ho' ?_⟩
      · intro e he
        rcases List.mem_cons.1 he with rfl | he
        · first | (rw [if_pos hw1, List.length_append]; omega) | (rw [if_neg (by omega), List.length_append]; omega)
        · exact hm e (List.mem_of_mem_tail he)
      · rw [qJ hE0]
        first | rw [if_pos hw1] | rw [if_neg (by omega)]
        exact (GZ.r4.swap.DF (qQ (fun I a b => CS hs hh hE hE0 b a) _)).FQ.right.swap
end
end Go.Proofs.YtgmpclifphbjkaaGreatDoor
end
section
namespace Go.Proofs.YtgmpclifphbjkaaGreatDoor
open Go.RowKit
open _root_.Go.Proofs.Tryz
def vJ (m place : Nat) (n : Int) : Nat := (((place : Int) + n) % (m : Int)).toNat
theorem Vk {m place : Nat} {n : Int} (h : 0 < m) : vJ m place n < m := by
  unfold vJ
  have h1 := Int.emod_nonneg ((place : Int) + n) (show (m : Int) ≠ 0 by omega)
  have h2 := Int.emod_lt_of_pos ((place : Int) + n) (show (0 : Int) < m by omega)
  omega
theorem I4 (a : Int) {m : Int} (h : 0 < m) : -m < a.tmod m ∧ a.tmod m < m := by
  have h2 := Int.tmod_lt_of_pos a h
  have h3 := Int.tmod_lt_of_pos (-a) h
  rw [Int.neg_tmod] at h3
  omega
theorem He (a m : Int) : a.tmod m % m = a % m := by
  rw [Int.tmod_def]
  exact Int.sub_mul_emod_self_left a m (a.tdiv m)
theorem Xm (m place : Nat) (n : Int) (h : 0 < m) : (((place : Int) + n.tmod m).tmod m + m).tmod m = (vJ m place n : Int) := by
  have h1 := I4 ((place : Int) + n.tmod m) (show (0 : Int) < m by omega)
  have h2 := Int.emod_nonneg ((place : Int) + n) (show (m : Int) ≠ 0 by omega)
  unfold vJ
  rw [Int.toNat_of_nonneg h2, Int.tmod_eq_emod_of_nonneg (by omega), Int.add_emod_right, He, Int.add_emod, He, ← Int.add_emod]
section
variable {w0 w : World} {F : HP} {p place : Nat} {E : List (List Int)} {v : Value} {l : List Int} {way : Int}
theorem Gh (H : aB w0 w (bY p E place • F)) (hr : iU w0 F .i32 v l) :
    fQ prog 116 #[.pointer (some ⟨p, 0, none⟩), .int .i64 way, v] w fun v' w' => v' = .int .i64 (vI E place way l).1 ∧ aB w0 w' (bY p (vI E place way l).2.1 (vI E place way l).2.2 • F) := by
  unfold vI
  by_cases h1 : way < 0 ∨ 2 < way
  · simp only [h1, if_true]; exact F9 H hr h1
  · simp only [h1, if_false]
    by_cases h2 : 1024 < l.length
    · simp only [h2, if_true]; exact Es H hr (by omega) h2
    · simp only [h2, if_false]
      by_cases h3 : way ≠ 0 ∧ 0 < E.length
      · rw [if_pos h3]
        by_cases h4 : 1024 < l.length + (E.getD 0 []).length
        · rw [if_pos h4]; exact Gg H hr (by omega) (by omega) h3.2 h4
        · rw [if_neg h4]; exact Et H hr (by omega) h3.2 (by omega)
      · rw [if_neg h3]
        by_cases h5 : way = 0 ∧ l.length = 0
        · rw [if_pos h5]; obtain ⟨rfl, h6⟩ := h5; exact AQ H hr h6
        · rw [if_neg h5]; exact Gf H hr (by omega) (by omega) (by omega) h5
theorem vK {n : Int} (H : aB w0 w (bY p [] place • F)) :
  fQ prog 73 #[.pointer (some ⟨p, 0, none⟩), .int .i64 n] w fun v' w' => v' = .tuple #[.slice none 0 0, .int .i64 6] ∧ aB w0 w' (bY p [] place • F) := by
 obtain ⟨s, h, hs, hh, hE, hp, hm, ho, H1⟩ := H.ring
 have hb := H1.get.2
 refine gX func73 ntmps73 ?_
 dsimp only [bg, Nat.reduceAdd]
 refine ay (ah (aV rfl (aV rfl (aA (aj (ay (bf (ay (ah (aO rfl (dw rfl func135 (iK _ hb uM) ?_)))))))))))
 rintro _ _ ⟨rfl, rfl⟩
 refine aV rfl (aA (aj (qN (ay (ah (aO rfl (bH rfl (aZ 62 underlying155 rfl sizeOf3 rfl (cO underlying3 rfl hb (jU hs) (aU (dW rfl rfl) (aV rfl (aA (aj (aH rfl (fun h1 => ?_) (fun h => by exfalso; (try simp only [aG] at h); first | contradiction | omega | (simp at h <;> omega))))))))))))))))
 (try simp only [aG] at h1)
 refine ay (ah (aV rfl (aV rfl (aA (aj (aJ (aW (aK (fC (.inl rfl) results73 rfl rfl ?_)))))))))
 exact ⟨rfl, H⟩
theorem xw {n : Int} (H : aB w0 w (bY p E place • F)) (h0 : 0 < E.length) :
  fQ prog 73 #[.pointer (some ⟨p, 0, none⟩), .int .i64 n] w fun v' w' => ∃ u, v' = .tuple #[u, .int .i64 0] ∧
   aB w0 w' (iG 21 .i32 u (E.getD (vJ E.length place n) []) • bY p E (vJ E.length place n) • F) := by
 obtain ⟨s, h, hs, hh, hE, hp, hm, ho, H⟩ := H.ring
 have hb := H.get.2
 have hlt := Vk (place := place) (n := n) h0
 have aaz := Xm E.length place n h0
 have hb1 := I4 n (show (0 : Int) < E.length by omega)
 have hb2 := I4 ((place : Int) + n.tmod E.length) (show (0 : Int) < E.length by omega)
 refine gX func73 ntmps73 ?_
 dsimp only [bg, Nat.reduceAdd]
 refine ay (ah (aV rfl (aV rfl (aA (aj (ay (bf (ay (ah (aO rfl (dw rfl func135 (iK _ hb uM) ?_)))))))))))
 rintro _ _ ⟨rfl, rfl⟩
 refine aV rfl (aA (aj (qN (ay (ah (aO rfl (bH rfl (aZ 62 underlying155 rfl sizeOf3 rfl (cO underlying3 rfl hb (jU hs) (aU (dW rfl rfl) (aV rfl (aA (aj (aH rfl (fun h => by exfalso; (try simp only [aG] at h); first | contradiction | omega | (simp at h <;> omega)) (fun h1 => ?_)))))))))))))))
 (try simp only [aG] at h1)
 refine aS (aQ (aj (ay ?_)))
 refine kN (n := 30) [0, 1, 2, 3, 4, 5, 6, 7, 8, 9, 10, 11, 12, 13, 14, 15, 16, 17, 18, 19, 20, 21, 22, 23, 24, 25, 26, 27, 28, 29] (fun W => W.heap = w.heap) (by kernel_rfl) (by kernel_rfl) rfl ?_
 have hS0 : (fun W => W.heap = w.heap) (w.drew) := rfl
 have H5d := H.drew
 refine fU 0 rfl hS0 rfl (fU 1 rfl hS0 rfl (iT 2 rfl hS0 rfl (dP 3 rfl hS0 63 underlying155 rfl sizeOf3 rfl ?_)))
 refine gQ 4 rfl hS0 (fun W hW => iI underlying3 rfl (by rw [hW]; exact hb) (Ep hs)) ?_
 refine fU 5 rfl hS0 rfl (fU 6 rfl hS0 rfl (iT 7 rfl hS0 rfl (dP 8 rfl hS0 62 underlying155 rfl sizeOf3 rfl ?_)))
 refine gQ 9 rfl hS0 (fun W hW => iI underlying3 rfl (by rw [hW]; exact hb) (jU hs)) ?_
 refine iJ 10 rfl hS0 (fun _ => MI rfl rfl (by omega)) (iJ 11 rfl hS0 (fun _ => eP rfl rfl (by omega)) (fU 12 rfl hS0 rfl (iT 13 rfl hS0 rfl (dP 14 rfl hS0 62 underlying155 rfl sizeOf3 rfl ?_))))
 refine gQ 15 rfl hS0 (fun W hW => iI underlying3 rfl (by rw [hW]; exact hb) (jU hs)) ?_
 refine iJ 16 rfl hS0 (fun _ => MI rfl rfl (by omega)) (fU 17 rfl hS0 rfl (iT 18 rfl hS0 rfl (dP 19 rfl hS0 62 underlying155 rfl sizeOf3 rfl ?_)))
 refine gQ 20 rfl hS0 (fun W hW => iI underlying3 rfl (by rw [hW]; exact hb) (jU hs)) ?_
 refine iJ 21 rfl hS0 (fun _ => eP rfl rfl (by omega)) (fU 22 rfl hS0 rfl (iT 23 rfl hS0 rfl (dP 24 rfl hS0 62 underlying155 rfl sizeOf3 rfl ?_)))
 refine gQ 25 rfl hS0 (fun W hW => iI underlying3 rfl (by rw [hW]; exact hb) (jU hs)) ?_
 refine iJ 26 rfl hS0 (fun _ => MI rfl rfl (by omega)) (iT 27 rfl hS0 rfl (dP 28 rfl hS0 63 underlying155 rfl sizeOf3 rfl ?_))
 refine dB 29 rfl (by kernel_rfl) (dO H5d sizeOf3 rfl rfl rfl (by rw [je hs]; decide)) ?_
 rintro _ w2 H2
 rw [aaz, jk hs] at H2
 refine Ea (by kernel_rfl) ?_
 refine mg (aj (ay (ah (aO rfl (aO rfl (bH rfl (aZ 63 underlying155 rfl sizeOf3 rfl (cO underlying3 rfl H2.get.2 (Ep hs) (dw rfl func137 (qV hs hh (by omega) H2.get.2) ?_)))))))))
 rintro _ w3 ⟨rfl, hD2⟩
 have H3 := H2.nH hD2
 refine MH (oW (oZ rfl func136 rfl rfl) (oK H3 (fun W HW => HW.right.yt (i := vJ E.length place n) hlt) (by have := hm (E.getD (vJ E.length place n) []) (by rw [List.getD_eq_getElem?_getD, List.getElem?_eq_getElem hlt]; simp); omega))) (jq rfl) ?_
 rintro u w4 H4
 refine aV rfl (aV rfl (aA (aj (aJ (fC (.inl rfl) results73 rfl rfl ?_)))))
 exact ⟨u, rfl, (aB.pF hs hh hE (.inl hlt) hm ho H4.d3).swap⟩
theorem Eu (H : aB w0 w (bY p [] place • F)) :
  fQ prog 70 #[.pointer (some ⟨p, 0, none⟩)] w fun v' w' => v' = .tuple #[.slice none 0 0, .int .i64 6] ∧ aB w0 w' (bY p [] place • F) := by
 refine gX func70 ntmps70 ?_
 dsimp only [bg, Nat.reduceAdd]
 refine ay (ah (aV rfl (aV rfl (aA (aj (ay (ah (aO rfl (dw rfl func73 (vK H) ?_)))))))))
 rintro _ w1 ⟨rfl, H1⟩
 refine nX rfl rfl (nX rfl rfl (aV rfl (aV rfl (aA (aj (aJ (fC (.inl rfl) results70 rfl rfl ?_)))))))
 exact ⟨rfl, H1⟩
theorem Qc {m place : Nat} (h : place < m) : vJ m place 0 = place := by
  unfold vJ
  rw [Int.add_zero, Int.emod_eq_of_lt (by omega) (by omega)]
  omega
theorem Gi (H : aB w0 w (bY p E place • F)) (h0 : 0 < E.length) :
  fQ prog 70 #[.pointer (some ⟨p, 0, none⟩)] w fun v' w' => ∃ u, v' = .tuple #[u, .int .i64 0] ∧
   aB w0 w' (iG 21 .i32 u (E.getD place []) • bY p E place • F) := by
 obtain ⟨s, h, hs, hh, hE, hp, hm, ho, H1⟩ := H.ring
 have hpl : vJ E.length place 0 = place := Qc (by omega)
 refine gX func70 ntmps70 ?_
 dsimp only [bg, Nat.reduceAdd]
 refine ay (ah (aV rfl (aV rfl (aA (aj (ay (ah (aO rfl (dw rfl func73 (xw H h0) ?_)))))))))
 rintro _ w1 ⟨u, rfl, H1⟩
 refine nX rfl rfl (nX rfl rfl (aV rfl (aV rfl (aA (aj (aJ (fC (.inl rfl) results70 rfl rfl ?_)))))))
 rw [hpl] at H1; exact ⟨u, rfl, H1⟩
theorem aB.Qd {s : List Value} {h : Nat} (H : aB w0 w (wF s h E • F)) : aB w0 w (wF s h E • wF s h E • F) := H.DY
theorem Qe {s : List Value} {h n p : Nat} (ho : ∀ v ∈ s, v.oneCell' = true) : ∀ v ∈ (bT s h n p).toList, v.oneCell' = true := by
  intro v hv
  simp [bT] at hv
  rcases hv with rfl | hv | rfl | rfl | rfl <;> first | rfl | exact ho v hv
theorem tC (H : aB w0 w (bY p E place • F)) :
  fQ prog 72 #[.pointer (some ⟨p, 0, none⟩)] w fun v' w' => ∃ q, v' = .pointer (some ⟨q, 0, none⟩) ∧ aB w0 w' (bY q E place • bY p E place • F) := by
 obtain ⟨s, h, hs, hh, hE, hp, hm, ho, H⟩ := H.ring
 have hb := H.get.2
 refine gX func72 ntmps72 ?_
 dsimp only [bg, Nat.reduceAdd]
 refine ay (ah (aV rfl (aA (aj (ay (ay (ah (aO rfl (dw rfl func135 (iK _ hb uM) ?_)))))))))
 rintro _ _ ⟨rfl, rfl⟩
 refine aA (aj (qN (aS (aj (ay (ah (aO rfl (bH rfl (aU (bU underlying155 rfl sizeOf155 (je hs) rfl hb) (iy (wu H zeroValue155) ?_))))))))))
 rintro _ w2 ⟨b2, rfl, H2⟩
 refine aI (dR H2 sizeOf155 (je hs) rfl rfl rfl (Qe ho)) ?_
 rintro _ w3 H3
 refine aA (aj (ay (ah (aV rfl (aA (aj (aJ (aP (.inl rfl) results72 rfl ?_))))))))
 exact ⟨_, rfl, aB.pF hs hh hE hp hm ho (aB.pF hs hh hE hp hm ho (H3.FQ.Qd.r4)).swap.FQ⟩
end
end Go.Proofs.YtgmpclifphbjkaaGreatDoor
end
section
namespace Go.Proofs.YtgmpclifphbjkaaGreatDoor
open Go.RowKit
open _root_.Go.Proofs.Tryz
section
variable {w0 w : World} {F : HP} {p place : Nat} {E : List (List Int)}
theorem zS (H : aB w0 w (bY p E place • F)) : E.length ≤ 60 ∧ (place < E.length ∨ place = 0) ∧ ∀ e ∈ E, e.length ≤ 1024 := by
  obtain ⟨s, h, hs, hh, hE, hpl, hE2, hs1, H1⟩ := H.ring
  exact ⟨hE, hpl, hE2⟩
theorem Gj (H : aB w0 w (bY p E place • F)) : fQ prog 70 #[.pointer (some ⟨p, 0, none⟩)] w fun v w' => ∃ u, v = .tuple #[u, .int .i64 (if E.length = 0 then 6 else 0)] ∧ aB w0 w' (iG 21 .i32 u (E.getD place []) • bY p E place • F) := by
  by_cases h0 : E.length = 0
  · obtain rfl := List.eq_nil_of_length_eq_zero h0
    exact (Eu H).mono fun v w' h => ⟨_, h.1, h.2.fZ none⟩
  · rw [if_neg h0]
    exact (Gi H (by omega)).mono fun v w' h => h
theorem xA {n : Int} (H : aB w0 w (bY p E place • F)) : fQ prog 73 #[.pointer (some ⟨p, 0, none⟩), .int .i64 n] w fun v w' => ∃ u, v = .tuple #[u, .int .i64 (if E.length = 0 then 6 else 0)] ∧
    aB w0 w' (iG 21 .i32 u (if E.length = 0 then [] else E.getD (vJ E.length place n) []) • bY p E (if E.length = 0 then place else vJ E.length place n) • F) := by
  by_cases h0 : E.length = 0
  · obtain rfl := List.eq_nil_of_length_eq_zero h0
    simp only [List.length_nil, if_true]
    exact (vK H).mono fun v w' h => ⟨_, h.1, h.2.fZ none⟩
  · simp only [if_neg h0]
    exact (xw H (by omega)).mono fun v w' h => h
end
end Go.Proofs.YtgmpclifphbjkaaGreatDoor
end
section
namespace Go.Proofs.YtgmpclifphbjkaaGreatDoor
open Go.RowKit
def xB (I : Hp) (k : IntKind) (vs : List Value) (ls : List (List Int)) : Prop := vs.length = ls.length ∧ ∀ j, j < ls.length → y8 I k (vs.getD j undef) (ls.getD j [])
def Y5 (k : IntKind) (vs : List Value) (ls : List (List Int)) : HP := know (fun I => xB I k vs ls) fun _ _ hl h => ⟨h.1, fun j hj => (h.2 j hj).mono hl⟩
def LL (e : TypeId) (k : IntKind) (v : Value) (ls : List (List Int)) : HP := sS fun vs => Row e 1 v ls.length vs • Y5 k vs ls
theorem qK {α : Type _} {l m : List α} {j : Nat} {d : α} (h : j < l.length) : (l ++ m).getD j d = l.getD j d := by simp [List.getD_eq_getElem?_getD, List.getElem?_append_left h]
theorem pG {α : Type _} {l m : List α} {j : Nat} {d : α} (h : l.length ≤ j) : (l ++ m).getD j d = m.getD (j - l.length) d := by simp [List.getD_eq_getElem?_getD, List.getElem?_append_right h]
theorem Hf {α : Type _} {l : List α} {i j : Nat} {d : α} : (l.drop i).getD j d = l.getD (i + j) d := by simp [List.getD_eq_getElem?_getD]
theorem BQ {α : Type _} {l : List α} {i j : Nat} {d : α} (h : j < i) : (l.take i).getD j d = l.getD j d := by simp [List.getD_eq_getElem?_getD, List.getElem?_take, h]
theorem vM {α : Type _} {l : List α} {j : Nat} {d : α} (h : j < l.length) : l.getD j d ∈ l := by rw [List.getD_eq_getElem?_getD, List.getElem?_eq_getElem h]; exact List.getElem_mem h
theorem xB.app {I : Hp} {k : IntKind} {vs us : List Value} {ls ms : List (List Int)} (h : xB I k vs ls) (g : xB I k us ms) : xB I k (vs ++ us) (ls ++ ms) := by
  refine ⟨by simp [h.1, g.1], fun j hj => ?_⟩
  by_cases hl : j < ls.length
  · rw [qK (by rw [h.1]; exact hl), qK hl]; exact h.2 j hl
  · have hj' : j - ls.length < ms.length := by simp at hj; omega
    rw [pG (by rw [h.1]; omega), pG (by omega), h.1]; exact g.2 _ hj'
theorem xB.drop {I : Hp} {k : IntKind} {vs : List Value} {ls : List (List Int)} (h : xB I k vs ls) (i : Nat) : xB I k (vs.drop i) (ls.drop i) := by
  refine ⟨by simp [h.1], fun j hj => ?_⟩
  rw [Hf, Hf]
  exact h.2 _ (by simp at hj; omega)
theorem xB.take {I : Hp} {k : IntKind} {vs : List Value} {ls : List (List Int)} (h : xB I k vs ls) (i : Nat) : xB I k (vs.take i) (ls.take i) := by
  refine ⟨by simp [h.1], fun j hj => ?_⟩
  simp at hj
  rw [BQ (by omega), BQ (by omega)]
  exact h.2 _ (by omega)
theorem y8.one {I : Hp} {k : IntKind} {v : Value} {l : List Int} (h : y8 I k v l) : xB I k [v] [l] := ⟨rfl, fun j hj => by
  obtain rfl : j = 0 := by simp at hj; omega
  exact h⟩
theorem y8.RV {I : Hp} {k : IntKind} {v : Value} {l : List Int} (h : y8 I k v l) : v.oneCell' = true := by obtain ⟨a, c, rfl, _⟩ := h; rfl
section
variable {w0 w : World} {F : HP} {e : TypeId} {k : IntKind} {v : Value} {vs us : List Value} {ls ms : List (List Int)} {l : List Int}
theorem Rd.Y6 {n : Nat} {xs : List Value} (hr : Rd w 1 v n xs) {i : Nat} (h : i ≤ n) : Rd w 1 (ny 1 0 i v) i (xs.take i) := by
  have h1 := hr.cut (Nat.zero_le i) h
  simpa using h1
end
end Go.Proofs.YtgmpclifphbjkaaGreatDoor
end
section
namespace Go.Proofs.YtgmpclifphbjkaaGreatDoor
open Go.RowKit
theorem RX {α : Type _} {enc : α → List Value} {sz : Nat} (he : ∀ a, (enc a).length = sz) (l : List α) : (l.flatMap enc).length = l.length * sz := by
  induction l with
  | nil => simp
  | cons a l ih => simp [he, ih, Nat.add_mul, Nat.add_comm]
theorem iQ {α : Type _} {enc : α → List Value} {sz : Nat} (he : ∀ a, (enc a).length = sz) {l : List α} {k : Nat} (hk : k < l.length) (d : α) : ((l.flatMap enc).drop (k * sz)).take sz = enc (l.getD k d) := by
  have h1 : l = l.take k ++ l.getD k d :: l.drop (k + 1) := by
    rw [List.getD_eq_getElem?_getD, List.getElem?_eq_getElem hk]
    simp
  have h2 : ((l.take k).flatMap enc).length = k * sz := by rw [RX he, List.length_take, Nat.min_eq_left (by omega)]
  conv => lhs; rw [h1]
  rw [List.flatMap_append, List.drop_append, h2]
  simp [h2, List.take_append, he]
theorem I5 {α : Type _} [Inhabited α] {sz n : Nat} {enc : α → List Value} {xs : List Value} {p : α → Prop} (hx : xs.length = n * sz) (h : ∀ k, k < n → ∃ a, (xs.drop (k * sz)).take sz = enc a ∧ p a) : ∃ l : List α, l.length = n ∧ xs = l.flatMap enc ∧ ∀ k, k < n → p (l.getD k default) := by
  induction n generalizing xs with
  | zero => exact ⟨[], rfl, by simpa using List.eq_nil_of_length_eq_zero (by simpa using hx), fun k hk => by omega⟩
  | succ n ih =>
    obtain ⟨a, h1, h2⟩ := h 0 (by omega)
    rw [Nat.zero_mul, List.drop_zero] at h1
    obtain ⟨l, g1, g2, g3⟩ := ih (xs := xs.drop sz) (by rw [List.length_drop, hx, Nat.succ_mul]; omega) (fun k hk => by
      obtain ⟨b, h3, h4⟩ := h (k + 1) (by omega)
      exact ⟨b, by rw [← h3, List.drop_drop, Nat.succ_mul, Nat.add_comm], h4⟩)
    refine ⟨a :: l, by simp [g1], ?_, fun k hk => ?_⟩
    · rw [List.flatMap_cons, ← g2, ← h1, List.take_append_drop]
    · cases k with
      | zero => exact h2
      | succ k => exact g3 k (by omega)
theorem gY {P : Program} {L : List (Nat × Value)} {w : World} {ty : TypeId} {x : Operand} {t : TypeId} {d : TypeDesc} {b o n c sz n' k : Nat} {xs ys : List Value} (hr : Rd w sz (.slice (some ⟨b, o, none⟩) n c) n' xs) (hk : k < n') (hu : P.underlying t = some d) (hd : IJ d = true) (hs : ∀ w, (sizeOf t).run P w = .ok sz w)
    (hx : ev L x = some (.pointer (some ⟨b, o + (k : Int).toNat * sz, none⟩))) (hy : (xs.drop (k * sz)).take sz = ys) (hl : ys.length = sz) : Val P L (.load t x) ty w (.agg ys.toArray) w :=
  wo (by rw [hu]; rfl) (GR hu hd) hs hl hx (fun j u hj => by
    have hjl : j < sz := by rw [← hl]; exact (List.getElem?_eq_some_iff.1 hj).1
    rw [hr.atS hk hjl, List.getD_eq_getElem?_getD]
    rw [← hy, List.getElem?_take, if_pos hjl, List.getElem?_drop] at hj
    rw [hj]; rfl)
end Go.Proofs.YtgmpclifphbjkaaGreatDoor
end
section
namespace Go.Proofs.YtgmpclifphbjkaaGreatDoor
open Go.RowKit
open _root_.Go.Proofs.Tryz
section
variable {w0 w : World} {F : HP} {v d s z d2 z2 u1 u2 u3 : Value} {L dl il Yx Y7 l1 l2 l3 : List Int} {a a2 : Int}
def aaA (L : List Int) (a : Int) (dl : List Int) : Bool := decide (0 ≤ a ∧ a + dl.length ≤ L.length) && ((L.drop a.toNat).take dl.length == dl)
def uE (L : List Int) (a : Int) (dl il : List Int) : Int := if aaA L a dl then (if 1024 < (L.length : Int) - dl.length + il.length then 3 else 0) else 1
def uL (L : List Int) (a : Int) (dl il : List Int) : List Int := if uE L a dl il = 0 then L.take a.toNat ++ il ++ L.drop (a.toNat + dl.length) else []
abbrev Y8 (a : Int) (d z : Value) : Value := .agg #[.int .i64 a, d, z]
theorem sD (H : aB w0 w F) (hd : iU w0 F .i32 d dl) (hi : iU w0 F .i32 z il) (b2 : dl.length ≤ 35184372087808) (b3 : il.length ≤ 35184372087808) :
  fQ prog 170 #[Y8 a d z] w fun v' w' => ∃ d' s', v' = Y8 a d' s' ∧ aB w0 w' (iG 21 .i32 d' dl • iG 21 .i32 s' il • F) := by
 refine gX func170 ntmps170 ?_
 dsimp only [bg, Nat.reduceAdd]
 refine ay (ah (iy (iq (l := [_, _, _]) H rfl rfl) ?_))
 rintro _ w1 ⟨b1, rfl, H1⟩
 refine iy (dI (l := [_, _, _]) H1 zeroValue120 rfl) ?_
 rintro _ w2 ⟨b2, rfl, H2⟩
 refine aA (aj (ay ?_))
 have RY := H2.drew
 have vN := aB.kp (RY.f2.f2)
 refine uH [1, 3, 6] vN rfl (dP 0 rfl vN 0 underlying120 rfl sizeOf3 rfl (gQ 1 rfl vN (fun W hW => iI underlying3 rfl ((Kp.h hW).f2).get.2 rfl) (dP 2 rfl vN 1 underlying120 rfl sizeOf22 rfl (gQ 3 rfl vN (fun W hW => iI underlying22 rfl ((Kp.h hW).f2).get.2 rfl) (dP 5 rfl vN 2 underlying120 rfl sizeOf22 rfl (gQ 6 rfl vN (fun W hW => iI underlying22 rfl ((Kp.h hW).f2).get.2 rfl) (jH 4 rfl (rU rfl func136 (oK RY (fun W HW => hd _ (HW.right.right)) (by omega))) ?_)))))))
 rintro u3 w3 H3
 have su := aB.kp (H3.f3.f3.f3)
 refine bW su (fun W hW => (Kp.h hW).right.f2.f2) ?_
 refine jH 7 rfl (rU rfl func136 (oK H3 (fun W HW => hi _ (HW.right.right.right)) (by omega))) ?_
 rintro u4 w4 H4
 have jd := aB.kp (H4.f4.f4.f4.f4)
 refine bW jd (fun W hW => (Kp.h hW).right.f3.f3.f3) ?_
 obtain ⟨au3, cu3, eu3, -⟩ := jG.open ((H4.f2).aT)
 subst eu3
 obtain ⟨au4, cu4, eu4, -⟩ := jG.open ((H4).aT)
 subst eu4
 refine iJ 8 rfl jd (fun _ => gq (pl := #[(0, 1), (1, 1), (2, 1)]) (#[_, _, _]) underlying120 zeroValue120 (fun w => by kernel_rfl) rfl (rfl)) ?_
 refine dB 9 rfl (by kernel_rfl) (bJ 0 (l' := [_, _, _]) (us := [_, _, _]) H4.f3 sizeOf120 rfl rfl rfl (aC (by first | rfl | assumption) (aC (by first | rfl | exact Rd.one ((H4.f2).aT)) (aC (by first | rfl | exact Rd.one ((H4).aT)) bn))) rfl rfl) ?_
 rintro _ w7 H7
 have vO := aB.kp (H7.f4.f4.f4.f4)
 refine fA vO (by kernel_rfl) ?_
 refine mg (aj (aJ ?_))
 refine oq (.inl rfl) (MO results170 rfl underlying120 rfl (by rw [show (prog.info? 120).map (·.size) = some 3 from by kernel_rfl]; rfl) (H7).get.2) ?_
 exact ⟨_, _, rfl, H7.right.f3.right.f2⟩
theorem BR (H : aB w0 w F) (hd : iU w0 F .i32 d dl) (hi : iU w0 F .i32 z il) (b2 : dl.length ≤ 35184372087808) (b3 : il.length ≤ 35184372087808) :
  fQ prog 173 #[Y8 a d z] w fun v' w' => ∃ d' s', v' = Y8 a d' s' ∧ aB w0 w' (iG 21 .i32 d' il • iG 21 .i32 s' dl • F) := by
 refine gX func173 ntmps173 ?_
 dsimp only [bg, Nat.reduceAdd]
 refine ay (ah (iy (iq (l := [_, _, _]) H rfl rfl) ?_))
 rintro _ w1 ⟨b1, rfl, H1⟩
 refine iy (dI (l := [_, _, _]) H1 zeroValue120 rfl) ?_
 rintro _ w2 ⟨b2, rfl, H2⟩
 refine aA (aj (ay (ah (aZ 0 underlying120 rfl sizeOf3 rfl (cO underlying3 rfl (H2.f2).get.2 rfl (aZ 2 underlying120 rfl sizeOf22 rfl (cO underlying22 rfl (H2.f2).get.2 rfl (aZ 1 underlying120 rfl sizeOf22 rfl (cO underlying22 rfl (H2.f2).get.2 rfl ?_)))))))))
 obtain ⟨az, cz, ez, -⟩ := jG.open (hi _ (H2.right.right))
 subst ez
 obtain ⟨ad, cd, ed, -⟩ := jG.open (hd _ (H2.right.right))
 subst ed
 refine aU (gq (pl := #[(0, 1), (1, 1), (2, 1)]) (#[_, _, _]) underlying120 zeroValue120 (fun w => by kernel_rfl) rfl (rfl)) (dw rfl func170 (sD H2 (fun W HW => hi _ (HW.right.right)) (fun W HW => hd _ (HW.right.right)) (by omega) (by omega)) ?_)
 rintro _ w5 ⟨d5, s5, rfl, H5⟩
 refine aI (bJ 0 (l' := [_, _, _]) (us := [_, _, _]) H5.f3 sizeOf120 rfl rfl rfl (aC (by first | rfl | assumption) (aC (by first | rfl | exact Rd.one ((H5).aT)) (aC (by first | rfl | exact Rd.one ((H5.f2).aT)) bn))) rfl rfl) ?_
 rintro _ w6 H6
 refine aA (aj (aJ ?_))
 refine oq (.inl rfl) (MO results173 rfl underlying120 rfl (by rw [show (prog.info? 120).map (·.size) = some 3 from by kernel_rfl]; rfl) (H6).get.2) ?_
 exact ⟨_, _, rfl, H6.right.f3.right.f2.f2⟩
end
end Go.Proofs.YtgmpclifphbjkaaGreatDoor
end
section
namespace Go.Proofs.YtgmpclifphbjkaaGreatDoor
open Go.RowKit
section
variable {w0 w : World} {F : HP} {v d s z d2 z2 u1 u2 u3 : Value} {L dl il Yx Y7 l1 l2 l3 : List Int} {a a2 : Int}
def jK (a a2 : Int) (dl il Yx Y7 : List Int) : Nat := if Yx.length = 0 ∧ a2 = a + il.length then 1 else if il.length = 0 ∧ Y7.length = 0 ∧ a = a2 + Yx.length then 2 else 0
def jA (k : Nat) (a a2 : Int) : Int := if k = 1 then a else if k = 2 then a2 else 0
def jD (k : Nat) (dl Yx : List Int) : List Int := if k = 1 then dl else if k = 2 then Yx ++ dl else []
def jI (k : Nat) (il Y7 : List Int) : List Int := if k = 1 then il ++ Y7 else []
end
end Go.Proofs.YtgmpclifphbjkaaGreatDoor
end
section
namespace Go.Proofs.YtgmpclifphbjkaaGreatDoor
open Go.RowKit
section
variable {P : Program} {L : List (Nat × Value)} {w0 w : World} {F : HP} {ty : TypeId}
theorem Nk (l : List Value) : ∀ (i : Nat) (cells : Array Value), cells.size = i + l.length → (l.zipIdx i).foldl (fun cs (x : Value × Nat) => cs.setIfInBounds (0 + x.2) x.1) cells = (cells.toList.take i ++ l).toArray := by
  induction l with
  | nil => intro i cells hs; simp [List.take_of_length_le (show cells.toList.length ≤ i by simp; simp at hs; omega)]
  | cons v r ih =>
    intro i cells hs
    rw [List.zipIdx_cons, List.foldl_cons]
    rw [ih (i + 1) _ (by simp at hs ⊢; omega)]
    congr 1
    have hi : i < cells.toList.length := by simp at hs ⊢; omega
    rw [Array.toList_setIfInBounds, Nat.zero_add, List.take_succ_eq_append_getElem (by simpa using hi), List.take_set_of_le (Nat.le_refl _)]
    simp
theorem oL {t e sz : Nat} {x : Operand} {cs : Array Value} {z : Value} (H : aB w0 w F) (ht : P.underlying t = some (.slice e)) (hs : ∀ w, (sizeOf e).run P w = .ok sz w) (hz : ∀ w, (zeroValue e).run P w = .ok z w) (hz1 : z.cells.size = sz)
    (hx : ev L x = some (.agg cs)) (hn : cs.size = sz) (h0 : 0 < sz) (Q8 : sz ≤ 16777216) :
    tZ P L (.buildSlice t 1 #[(0, x)]) ty w fun v w' => aB w0 w' (Row e sz v 1 cs.toList • F) := by
  refine pV (v := .slice (some ⟨w.heap.size, 0, none⟩) 1 1) (w' := w.alloc (.cells cs e)) ?_ ?_
  · intro ρ hρ d pos nG g
    simp only [execOp, Instr.buildSlice, Sem.run_bind, run_underlying ht, Result.andThen_ok, hs]
    rw [if_neg (by omega), if_neg (by omega)]
    have hf : ∀ q : Array Value, q.size = sz → Instr.fill (fun i => some (i * sz, sz)) q [(0, .agg cs)] = some cs := fun q hq => by
      simp only [Instr.fill, Value.cells, hn]
      rw [if_neg (by simp [hq])]
      have := Nk cs.toList 0 q (by simp [hn, hq])
      simp only [Nat.zero_mul]
      rw [← Array.foldl_toList, Array.toList_zipIdx]
      simpa using this
    have hf1 := hf ((Array.range sz).map (z.cells[· % z.cells.size]!)) (by simp)
    simp [hz, hρ _ _ hx, hf1, newRow]
  · refine (H.alloc _).xX (by simp [hn]) rfl (Nat.le_refl _) (by omega) (by simp [hn]) fun j hj => ?_
    rw [Nat.zero_add, List.getD_eq_getElem?_getD]
    have : j < cs.size := by omega
    simp [this]
theorem RZ (l : List Value) : ∀ (o i : Nat) (cells : Array Value), o + i + l.length ≤ cells.size → (l.zipIdx i).foldl (fun cs (x : Value × Nat) => cs.setIfInBounds (o + x.2) x.1) cells = (cells.toList.take (o + i) ++ l ++ cells.toList.drop (o + i + l.length)).toArray := by
  induction l with
  | nil => intro o i cells hs; simp
  | cons v r ih =>
    intro o i cells hs
    rw [List.zipIdx_cons, List.foldl_cons]
    rw [ih o (i + 1) _ (by simp at hs ⊢; omega)]
    congr 1
    simp only [List.length_cons] at hs ⊢
    have hi : o + i < cells.toList.length := by rw [Array.length_toList]; omega
    rw [Array.toList_setIfInBounds, show o + (i + 1) = o + i + 1 from by omega, List.take_succ_eq_append_getElem (by simpa using hi), List.take_set_of_le (Nat.le_refl _), List.drop_set_of_lt (by omega)]
    simp
    omega
end
section
variable {w0 w : World} {F : HP}
end
end Go.Proofs.YtgmpclifphbjkaaGreatDoor
end
