/- Quotes, and what is left without them, plainly. -/
import Derived.Test.YtgoopiakpbcgoaaShW
set_option linter.unusedSimpArgs false
set_option linter.unusedVariables false
namespace Go.Proofs.Ytgoopiakpbcgoaa
open Go.Lib
def runS (s : St) (x : List Int) : St := x.foldl nextS s
theorem runS_app (s : St) (x y : List Int) : runS s (x ++ y) = runS (runS s x) y := by simp [runS]
theorem runS_cons (s : St) (r : Int) (x : List Int) : runS s (r :: x) = runS (nextS s r) x := rfl
theorem stS_run (l : List Int) (k : Nat) : stS l k = runS (0, false) (l.take k) := rfl
theorem openS_run (l : List Int) : openS l = kindS (runS (0, false) l) := by unfold openS; rw [stS_run, List.take_length]
/-- No rune that ends a word stands unquoted. -/
def Good : St → List Int → Prop
  | _, [] => True
  | s, r :: x => (kindS s = 0 → classS r = 0) ∧ Good (nextS s r) x
theorem good_app : ∀ {x y : List Int} {s : St}, Good s x → Good (runS s x) y → Good s (x ++ y)
  | [], _, _, _, h => h
  | r :: x, y, s, ⟨h1, h2⟩, h => ⟨h1, good_app h2 h⟩
theorem good_k : ∀ {x : List Int} {s : St}, Good s x → ∀ k, k < x.length → kindS (runS s (x.take k)) = 0 → classS (x.getD k 0) = 0
  | [], _, _, k, hk, _ => absurd hk (Nat.not_lt_zero _)
  | r :: x, s, ⟨h1, h2⟩, 0, _, h => by simpa using h1 (by simpa [runS] using h)
  | r :: x, s, ⟨h1, h2⟩, k + 1, hk, h => by
    have := good_k h2 k (by simpa using hk) (by simpa [runS] using h)
    simpa using this
theorem good_of {l : List Int} : ∀ {x : List Int} {s : St}, (∀ k, k < x.length → kindS (runS s (x.take k)) = 0 → classS (x.getD k 0) = 0) → Good s x
  | [], _, _ => trivial
  | r :: x, s, h => ⟨fun hk => by simpa using h 0 (by simp) (by simpa [runS] using hk), good_of (l := l) fun k hk hh => by simpa using h (k + 1) (by simpa using hk) (by simpa [runS] using hh)⟩
theorem words_one {l : List Int} (hne : l ≠ []) (h : ∀ k, k < l.length → endsS l k = false) : wordsS l = [(0, 0, l.length)] := by
  have h0 : 0 < l.length := List.length_pos_iff.2 hne
  have hs : skipS l 0 = false := by
    have := h 0 h0
    unfold endsS at this; rw [decide_eq_false_iff_not] at this
    unfold skipS; rw [decide_eq_false_iff_not]
    rintro ⟨h1, h2⟩
    exact this (.inr ⟨h2, by unfold classS; rw [if_pos h1]; decide⟩)
  have ho : isOp l 0 (digS l 0) = false := by
    unfold isOp; rw [decide_eq_false_iff_not]
    rintro ⟨h1, h2, h3⟩
    have := h (0 + digS l 0) h1
    unfold endsS at this; rw [decide_eq_false_iff_not] at this
    refine this (.inr ⟨h2, ?_⟩)
    unfold classS; split
    · decide
    · first | decide | (rw [if_pos h3]; decide)
  have hp : peS l 0 = l.length := by
    have h1 := peS_le (l := l) (i := 0) (Nat.zero_le _)
    rcases Nat.lt_or_ge (peS l 0) l.length with h2 | h2
    · have h3 := pe_end l (l.length - 0) 0 (by omega)
      have h4 := h (peS l 0) h2
      unfold peS at h4; rw [h3] at h4; cases h4
    · omega
  unfold wordsS
  rw [wordsAt_plain h0 hs ho, hp, wordsAt_end (by omega)]
theorem words_good {l : List Int} (hne : l ≠ []) (h : Good (0, false) l) : wordsS l = [(0, 0, l.length)] :=
  words_one hne fun k hk => by
    unfold endsS; rw [decide_eq_false_iff_not]
    rintro (h1 | ⟨h1, h2⟩)
    · omega
    · exact h2 (good_k h k hk h1)
/-- Does a \ within quotes go? -/
def goesL (q : Int) : List Int → Bool
  | [] => true
  | r :: _ => if q = 96 then decide (r = 92 ∨ r = 96) else decide (r = 92 ∨ r = 34 ∨ r = 36 ∨ r = 96)
def pieceS (s : St) (r : Int) (x : List Int) : List Int :=
  if s.2 = true then [r] else if (nextS s r).2 = true then (if s.1 ≠ 0 ∧ goesL s.1 x = false then [r] else []) else if (nextS s r).1 ≠ s.1 then [] else [r]
def stripR : St → List Int → List Int
  | _, [] => []
  | s, r :: x => pieceS s r x ++ stripR (nextS s r) x
def stripS (l : List Int) : List Int := stripR (0, false) l
def backS (r : Int) : Bool := decide (r = 32 ∨ r = 9 ∨ r = 10 ∨ r = 39 ∨ r = 34 ∨ r = 96 ∨ r = 40 ∨ r = 41 ∨ r = 60 ∨ r = 62 ∨ r = 59 ∨ r = 38 ∨ r = 124 ∨ r = 92 ∨ r = 36 ∨ r = 42 ∨ r = 63 ∨ r = 91 ∨ r = 93 ∨ r = 35 ∨ r = 126 ∨ r = 61 ∨ r = 37 ∨ r = 33 ∨ r = 123 ∨ r = 125 ∨ r = 64)
def enc1 (r : Int) : List Int := if r = 39 then [39, 92, 39, 39] else [r]
def enc2 (r : Int) : List Int := if r = 92 ∨ r = 34 ∨ r = 36 ∨ r = 96 then [92, r] else [r]
def enc3 (r : Int) : List Int := if backS r = true then [92, r] else [r]
def quoteL (style : Int) (t : List Int) : List Int :=
  if style = 1 then 39 :: t.flatMap enc1 ++ [39] else if style = 2 then 34 :: t.flatMap enc2 ++ [34] else if t = [] then [39, 39] else t.flatMap enc3
def quoteE (style : Int) (t : List Int) : Int := if style < 1 ∨ 3 < style then 1 else if 1024 < (quoteL style t).length then 3 else 0
def quoteR (style : Int) (t : List Int) : List Int := if quoteE style t = 0 then quoteL style t else []
theorem enc_len {f : Int → List Int} (hf : ∀ r, (f r).length ≤ 4) : ∀ t : List Int, (t.flatMap f).length ≤ 4 * t.length
  | [] => by simp
  | r :: t => by have := hf r; have := enc_len hf t; simp only [List.flatMap_cons, List.length_append, List.length_cons]; omega
theorem enc1_le (r : Int) : (enc1 r).length ≤ 4 := by unfold enc1; split <;> simp
theorem enc2_le (r : Int) : (enc2 r).length ≤ 4 := by unfold enc2; split <;> simp
theorem enc3_le (r : Int) : (enc3 r).length ≤ 4 := by unfold enc3; split <;> simp
theorem quoteL_len (style : Int) (t : List Int) : (quoteL style t).length ≤ 4 * t.length + 2 := by
  unfold quoteL
  have h1 := enc_len enc1_le t
  have h2 := enc_len enc2_le t
  have h3 := enc_len enc3_le t
  split
  · simp only [List.length_append, List.length_cons, List.length_nil]; omega
  · split
    · simp only [List.length_append, List.length_cons, List.length_nil]; omega
    · split
      · simp
      · omega
/-- What is quoted rune by rune: from a state, back into it. -/
structure Step (s : St) (r : Int) (x : List Int) : Prop where
  run : runS s x = s
  good : Good s x
  strip : ∀ y, stripR s (x ++ y) = r :: stripR s y
theorem step_flat {s : St} {f : Int → List Int} (h : ∀ r, Step s r (f r)) : ∀ (t y : List Int), runS s (t.flatMap f) = s ∧ Good s (t.flatMap f) ∧ stripR s (t.flatMap f ++ y) = t ++ stripR s y
  | [], y => ⟨rfl, trivial, rfl⟩
  | r :: t, y => by
    obtain ⟨h1, h2, h3⟩ := step_flat h t y
    have hr := h r
    refine ⟨?_, ?_, ?_⟩
    · rw [List.flatMap_cons, runS_app, hr.run, h1]
    · rw [List.flatMap_cons]; exact good_app hr.good (by rw [hr.run]; exact h2)
    · rw [List.flatMap_cons, List.append_assoc, hr.strip, h3]; rfl
theorem step1 (r : Int) : Step (39, false) r (enc1 r) := by
  unfold enc1
  by_cases h : r = 39
  · subst h
    rw [if_pos rfl]
    exact ⟨rfl, ⟨by decide, by decide, by decide, by decide, trivial⟩, fun y => rfl⟩
  · rw [if_neg h]
    have hn : nextS (39, false) r = (39, false) := by unfold nextS; simp [h]
    refine ⟨hn, ⟨by intro hk; exact absurd hk (by decide), trivial⟩, fun y => ?_⟩
    show pieceS (39, false) r y ++ stripR (nextS (39, false) r) y = _
    rw [hn]; unfold pieceS; rw [hn]; simp
theorem step2 (r : Int) : Step (34, false) r (enc2 r) := by
  unfold enc2
  by_cases h : r = 92 ∨ r = 34 ∨ r = 36 ∨ r = 96
  · rw [if_pos h]
    have h1 : nextS (34, false) 92 = (34, true) := rfl
    have h2 : nextS (34, true) r = (34, false) := rfl
    refine ⟨rfl, ⟨by intro hk; exact absurd hk (by decide), by intro hk; exact absurd hk (by decide), trivial⟩, fun y => ?_⟩
    show pieceS (34, false) 92 (r :: y) ++ (pieceS (34, true) r y ++ stripR (34, false) y) = _
    have hg : goesL 34 (r :: y) = true := by show (if (34 : Int) = 96 then decide (r = 92 ∨ r = 96) else decide (r = 92 ∨ r = 34 ∨ r = 36 ∨ r = 96)) = true; rw [if_neg (by decide), decide_eq_true h]
    have hp : pieceS (34, false) 92 (r :: y) = [] := by unfold pieceS; rw [h1]; simp [hg]
    rw [hp]; rfl
  · rw [if_neg h]
    have hn : nextS (34, false) r = (34, false) := by unfold nextS; rw [if_neg (by decide), if_neg (fun q => h (.inl q.1)), if_neg (fun q => absurd q.1 (by decide)), if_neg (fun q => h (.inr (.inl q.2)))]
    refine ⟨hn, ⟨by intro hk; exact absurd hk (by decide), trivial⟩, fun y => ?_⟩
    show pieceS (34, false) r y ++ stripR (nextS (34, false) r) y = _
    rw [hn]; unfold pieceS; rw [hn]; simp
theorem step3 (r : Int) : Step (0, false) r (enc3 r) := by
  unfold enc3
  by_cases h : backS r = true
  · rw [if_pos h]
    exact ⟨rfl, ⟨fun _ => by decide, by intro hk; exact absurd hk (by decide), trivial⟩, fun y => rfl⟩
  · rw [if_neg h]
    unfold backS at h
    rw [decide_eq_true_eq] at h
    have hn : nextS (0, false) r = (0, false) := by unfold nextS; rw [if_neg (by decide), if_neg (fun q => by have := q.1; omega), if_neg (fun q => by have := q.2; omega), if_neg (fun q => absurd rfl q.1)]
    refine ⟨hn, ⟨fun _ => ?_, trivial⟩, fun y => ?_⟩
    · unfold classS; rw [if_neg (by unfold blankS; rw [decide_eq_true_eq]; omega), if_neg (by unfold operS; rw [decide_eq_true_eq]; omega)]
    · show pieceS (0, false) r y ++ stripR (nextS (0, false) r) y = _
      rw [hn]; unfold pieceS; rw [hn]; simp
/-- What is quoted is one word, closed; without its quotes it is the text. -/
theorem quote_law (style : Int) (t : List Int) : quoteL style t ≠ [] ∧ Good (0, false) (quoteL style t) ∧ runS (0, false) (quoteL style t) = (0, false) ∧ stripS (quoteL style t) = t := by
  unfold quoteL stripS
  by_cases h1 : style = 1
  · rw [if_pos h1]
    obtain ⟨a, b, c⟩ := step_flat step1 t [39]
    refine ⟨by simp, ⟨fun _ => by decide, good_app b (by rw [show nextS (0, false) 39 = (39, false) from rfl, a]; exact ⟨by decide, trivial⟩)⟩, ?_, ?_⟩
    · rw [List.cons_append, runS_cons, show nextS (0, false) 39 = (39, false) from rfl, runS_app, a]; rfl
    · show pieceS (0, false) 39 _ ++ stripR (39, false) (t.flatMap enc1 ++ [39]) = t
      rw [c]; show [] ++ (t ++ []) = t; simp
  · rw [if_neg h1]
    by_cases h2 : style = 2
    · rw [if_pos h2]
      obtain ⟨a, b, c⟩ := step_flat step2 t [34]
      refine ⟨by simp, ⟨fun _ => by decide, good_app b (by rw [show nextS (0, false) 34 = (34, false) from rfl, a]; exact ⟨by decide, trivial⟩)⟩, ?_, ?_⟩
      · rw [List.cons_append, runS_cons, show nextS (0, false) 34 = (34, false) from rfl, runS_app, a]; rfl
      · show pieceS (0, false) 34 _ ++ stripR (34, false) (t.flatMap enc2 ++ [34]) = t
        rw [c]; show [] ++ (t ++ []) = t; simp
    · rw [if_neg h2]
      by_cases h3 : t = []
      · rw [if_pos h3, h3]
        exact ⟨by simp, ⟨fun _ => by decide, by decide, trivial⟩, rfl, rfl⟩
      · rw [if_neg h3]
        obtain ⟨a, b, c⟩ := step_flat step3 t []
        refine ⟨?_, b, a, ?_⟩
        · cases t with
          | nil => exact absurd rfl h3
          | cons r t => rw [List.flatMap_cons]; unfold enc3; split <;> simp
        · rw [List.append_nil] at c; rw [c]; simp [stripR]
end Go.Proofs.Ytgoopiakpbcgoaa
