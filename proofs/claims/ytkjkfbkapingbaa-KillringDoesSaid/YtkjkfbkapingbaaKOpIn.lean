/- What an operation's cells read as. -/
import Derived.Test.YtkjkfbkapingbaaOwn
set_option linter.unusedSimpArgs false
set_option linter.unusedVariables false
namespace Go.Proofs.Ytkjkfbkapingbaa
open Go.ChangeShapes Go.WideShapes Go.ChangeAt Go.RowKit
theorem kop_in {H : Type} {enc : TypeId × Value → H} {W : World} {cs : List Value} (h : In enc Try.prog W 35 cs) : ∃ x0 x1 v2 x2 x3 x4, cs = [.int .i64 x0, .int .i64 x1, v2, .int .i64 x3, .int .i64 x4] ∧ (Lit.int .i64 x0).wf = true ∧ (Lit.int .i64 x1).wf = true ∧ (RdI W .i32 v2 x2 ∧ x2.length * 4 ≤ reachBytes ∧ ∀ n ∈ x2, (Lit.int .i32 n).wf = true) ∧ (Lit.int .i64 x3).wf = true ∧ (Lit.int .i64 x4).wf = true := by
  obtain ⟨hl, hf⟩ := h.struct Try.underlying35
  rw [show Try.prog.cellsOf 35 = 5 from by kernel_rfl] at hl
  match cs, hl with
  | [c0, c1, c2, c3, c4], _ =>
    have h0 : In enc Try.prog W 3 (([c0, c1, c2, c3, c4].drop 0).take (Try.prog.cellsOf 3)) := hf 0 _ rfl
    rw [show Try.prog.cellsOf 3 = 1 from by kernel_rfl] at h0
    obtain ⟨x0, e0, w0⟩ := h0.int Try.underlying3
    have h1 : In enc Try.prog W 3 (([c0, c1, c2, c3, c4].drop 1).take (Try.prog.cellsOf 3)) := hf 1 _ rfl
    rw [show Try.prog.cellsOf 3 = 1 from by kernel_rfl] at h1
    obtain ⟨x1, e1, w1⟩ := h1.int Try.underlying3
    have h2 : In enc Try.prog W 22 (([c0, c1, c2, c3, c4].drop 2).take (Try.prog.cellsOf 22)) := hf 2 _ rfl
    rw [show Try.prog.cellsOf 22 = 1 from by kernel_rfl] at h2
    obtain ⟨v2, x2, e2, g2, b2, w2⟩ := h2.ints Try.underlying22 Try.underlying21 (by kernel_rfl)
    rw [show Try.prog.bytesOf 21 = 4 from by kernel_rfl] at b2
    have h3 : In enc Try.prog W 3 (([c0, c1, c2, c3, c4].drop 3).take (Try.prog.cellsOf 3)) := hf 3 _ rfl
    rw [show Try.prog.cellsOf 3 = 1 from by kernel_rfl] at h3
    obtain ⟨x3, e3, w3⟩ := h3.int Try.underlying3
    have h4 : In enc Try.prog W 3 (([c0, c1, c2, c3, c4].drop 4).take (Try.prog.cellsOf 3)) := hf 4 _ rfl
    rw [show Try.prog.cellsOf 3 = 1 from by kernel_rfl] at h4
    obtain ⟨x4, e4, w4⟩ := h4.int Try.underlying3
    simp only [List.drop, List.take, List.cons.injEq, and_true] at e0 e1 e2 e3 e4
    exact ⟨x0, x1, v2, x2, x3, x4, by simp_all, w0, w1, ⟨g2, b2, w2⟩, w3, w4⟩
end Go.Proofs.Ytkjkfbkapingbaa
