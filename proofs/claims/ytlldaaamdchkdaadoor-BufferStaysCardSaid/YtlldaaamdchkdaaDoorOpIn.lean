/- What an operation's cells read as. -/
import Derived.Test.YtlldaaamdchkdaaDoorOwn
import Derived.Test.YtlldaaamdchkdaaDoorLawSplices
set_option linter.unusedSimpArgs false
set_option linter.unusedVariables false
namespace Go.Proofs.YtlldaaamdchkdaaDoor
open Go.ChangeShapes Go.WideShapes Go.ChangeAt Go.RowKit
section
variable {H : Type} {enc : TypeId × Value → H} {W : World}
theorem edit_in {cs : List Value} (h : In enc Tryd.prog W 24 cs) : ∃ a d i dl il, cs = (edCells a d i).toList ∧ (RdI W .i32 d dl ∧ dl.length * 4 ≤ reachBytes) ∧ (RdI W .i32 i il ∧ il.length * 4 ≤ reachBytes) := by
  obtain ⟨hl, hf⟩ := h.struct Tryd.underlying24
  rw [show Tryd.prog.cellsOf 24 = 3 from by kernel_rfl] at hl
  match cs, hl with
  | [c0, c1, c2], _ =>
    have h0 : In enc Tryd.prog W 3 (([c0, c1, c2].drop 0).take (Tryd.prog.cellsOf 3)) := hf 0 _ rfl
    have h1 : In enc Tryd.prog W 22 (([c0, c1, c2].drop 1).take (Tryd.prog.cellsOf 22)) := hf 1 _ rfl
    have h2 : In enc Tryd.prog W 22 (([c0, c1, c2].drop 2).take (Tryd.prog.cellsOf 22)) := hf 2 _ rfl
    obtain ⟨a, e0, -⟩ := h0.int Tryd.underlying3
    obtain ⟨d, dl, e1, g1, b1, -⟩ := h1.ints Tryd.underlying22 Tryd.underlying21 (by kernel_rfl)
    obtain ⟨i, il, e2, g2, b2, -⟩ := h2.ints Tryd.underlying22 Tryd.underlying21 (by kernel_rfl)
    rw [show Tryd.prog.cellsOf 3 = 1 from by kernel_rfl] at e0
    rw [show Tryd.prog.cellsOf 22 = 1 from by kernel_rfl] at e1 e2
    rw [show Tryd.prog.bytesOf 21 = 4 from by kernel_rfl] at b1 b2
    simp at e0 e1 e2
    subst e0; subst e1; subst e2
    exact ⟨a, c1, c2, dl, il, rfl, ⟨g1, b1⟩, ⟨g2, b2⟩⟩
theorem op_in {cs : List Value} (h : In enc Tryd.prog W 26 cs) : ∃ k f t tx text a d i dl il, cs = (opCells k f t tx a d i).toList ∧ (RdI W .i32 tx text ∧ text.length * 4 ≤ reachBytes) ∧ (RdI W .i32 d dl ∧ dl.length * 4 ≤ reachBytes) ∧ (RdI W .i32 i il ∧ il.length * 4 ≤ reachBytes) := by
  obtain ⟨hl, hf⟩ := h.struct Tryd.underlying26
  rw [show Tryd.prog.cellsOf 26 = 7 from by kernel_rfl] at hl
  match cs, hl with
  | [c0, c1, c2, c3, c4, c5, c6], _ =>
    have h0 : In enc Tryd.prog W 3 (([c0, c1, c2, c3, c4, c5, c6].drop 0).take (Tryd.prog.cellsOf 3)) := hf 0 _ rfl
    have h1 : In enc Tryd.prog W 3 (([c0, c1, c2, c3, c4, c5, c6].drop 1).take (Tryd.prog.cellsOf 3)) := hf 1 _ rfl
    have h2 : In enc Tryd.prog W 3 (([c0, c1, c2, c3, c4, c5, c6].drop 2).take (Tryd.prog.cellsOf 3)) := hf 2 _ rfl
    have h3 : In enc Tryd.prog W 22 (([c0, c1, c2, c3, c4, c5, c6].drop 3).take (Tryd.prog.cellsOf 22)) := hf 3 _ rfl
    have h4 : In enc Tryd.prog W 24 (([c0, c1, c2, c3, c4, c5, c6].drop 4).take (Tryd.prog.cellsOf 24)) := hf 4 _ rfl
    obtain ⟨k, e0, -⟩ := h0.int Tryd.underlying3
    obtain ⟨f, e1, -⟩ := h1.int Tryd.underlying3
    obtain ⟨t, e2, -⟩ := h2.int Tryd.underlying3
    obtain ⟨tx, text, e3, g3, b3, -⟩ := h3.ints Tryd.underlying22 Tryd.underlying21 (by kernel_rfl)
    obtain ⟨a, d, i, dl, il, e4, hd, hi⟩ := edit_in h4
    rw [show Tryd.prog.cellsOf 3 = 1 from by kernel_rfl] at e0 e1 e2
    rw [show Tryd.prog.cellsOf 22 = 1 from by kernel_rfl] at e3
    rw [show Tryd.prog.cellsOf 24 = 3 from by kernel_rfl] at e4
    rw [show Tryd.prog.bytesOf 21 = 4 from by kernel_rfl] at b3
    simp [edCells] at e0 e1 e2 e3 e4
    obtain ⟨e4, e5, e6⟩ := e4
    subst e0; subst e1; subst e2; subst e3; subst e4; subst e5; subst e6
    exact ⟨k, f, t, c3, text, a, c5, c6, dl, il, rfl, ⟨g3, b3⟩, hd, hi⟩
end
end Go.Proofs.YtlldaaamdchkdaaDoor
