/- UndoTakesBack, the plain law: lines ahead of groups. -/
import Derived.Test.YtaabgcfeghcmnaaUDone
import Derived.Test.YtaabgcfeghcmnaaUStep
set_option linter.unusedSimpArgs false
set_option linter.unusedVariables false
namespace Go.Proofs.Ytaabgcfeghcmnaa
open Go.RowKit
theorem doneM_app (L : List Int) (a b : List EdA) : doneM L (a ++ b) = (doneM L a).bind fun x => doneM x b := by
  induction a generalizing L with
  | nil => rfl
  | cons e r ih =>
    simp only [List.cons_append, doneM]
    split
    · exact ih _
    · rfl
/-- The last group first: taken back, each leaves the line ahead of it; the first one leaves the first line. -/
def chainR (line : List Int) : List (List EdA) → List (List Int) → List Int → Prop
  | [], [], cur => cur = line
  | g :: gr, x :: wr, cur => doneM cur (g.reverse.map invA) = some x ∧ chainR line gr wr x
  | _, _, _ => False
theorem chainR_len {line : List Int} : ∀ {gr : List (List EdA)} {wr : List (List Int)} {cur : List Int}, chainR line gr wr cur → gr.length = wr.length
  | [], [], _, _ => rfl
  | g :: gr, x :: wr, _, h => by simp [chainR_len h.2]
  | [], _ :: _, _, h => h.elim
  | _ :: _, [], _, h => h.elim
theorem chainR_revert {line : List Int} : ∀ {gr : List (List EdA)} {wr : List (List Int)} {cur : List Int}, chainR line gr wr cur → doneM cur (gr.flatMap fun g => g.reverse.map invA) = some line
  | [], [], _, h => by rw [show _ = line from h]; rfl
  | g :: gr, x :: wr, _, h => by rw [List.flatMap_cons, doneM_app, h.1]; exact chainR_revert h.2
  | [], _ :: _, _, h => h.elim
  | _ :: _, [], _, h => h.elim
theorem revR_eq (C : List (List EdA)) : C.flatten.reverse.map invA = C.reverse.flatMap fun g => g.reverse.map invA := by
  induction C with
  | nil => rfl
  | cons g C ih => rw [List.flatten_cons, List.reverse_append, List.map_append, ih, List.reverse_cons, List.flatMap_append]; simp
theorem chainR_new {line cur next : List Int} {gr : List (List EdA)} {wr : List (List Int)} {e : EdA} (h : chainR line gr wr cur) (hn : doneM next [invA e] = some cur) : chainR line ([e] :: gr) (cur :: wr) next := ⟨hn, h⟩
theorem chainR_ext {line cur next x : List Int} {gr : List (List EdA)} {wr : List (List Int)} {N : List EdA} {e : EdA} (h : chainR line (N :: gr) (x :: wr) cur) (hn : doneM next [invA e] = some cur) : chainR line ((N ++ [e]) :: gr) (x :: wr) next := by
  refine ⟨?_, h.2⟩
  rw [List.reverse_append, List.map_append]
  show doneM next ([invA e] ++ N.reverse.map invA) = some x
  rw [doneM_app, hn]
  exact h.1
/-- A step is taken back. -/
theorem step_back {L il : List Int} {q n : Nat} (h : q + n ≤ L.length) (hl : L.length ≤ 1024) : doneM (L.take q ++ il ++ L.drop (q + n)) [invA ((q : Int), cutL L q n, il)] = some L := by
  show (if uE (L.take q ++ il ++ L.drop (q + n)) q il (cutL L q n) = 0 then some (uL (L.take q ++ il ++ L.drop (q + n)) q il (cutL L q n)) else none) = some L
  rw [if_pos (back_E h hl), back_L h hl]
/-- What Add turns. -/
theorem chainR_add {line cur next : List Int} {G : List (List EdA)} {N : List EdA} {wr : List (List Int)} {op a : Int} {dl il : List Int} (h : chainR line (closeG G N).reverse wr cur) (hn : doneM next [invA (a, dl, il)] = some cur) (he : addE G N a dl il = 0) (hN : op ≤ 0 → N = []) :
    chainR line (closeG (addG G N op a dl il) (addN G N op a dl il)).reverse (if 0 < op ∧ N ≠ [] then wr else cur :: wr) next := by
  by_cases ho : 0 < op
  · rw [addG_in he ho, addN_in he ho, closeG_snoc (by simp), List.reverse_append]
    by_cases hNe : N = []
    · subst hNe
      rw [if_neg (fun c => c.2 rfl)]
      rw [closeG_nil rfl] at h
      exact chainR_new h hn
    · rw [if_pos ⟨ho, hNe⟩]
      rw [closeG_snoc hNe, List.reverse_append] at h
      cases wr with
      | nil => exact h.elim
      | cons x wr => exact chainR_ext h hn
  · rw [if_neg (fun c => ho c.1), addG_out he ho, addN_out he ho]
    obtain rfl := hN (by omega)
    rw [closeG_nil rfl] at h ⊢
    rw [List.reverse_append]
    exact chainR_new h hn
end Go.Proofs.Ytaabgcfeghcmnaa
