/- What a script's operations read as. -/
import Derived.Test.YtaabgcfeghcmnaaOwn
set_option linter.unusedSimpArgs false
set_option linter.unusedVariables false
namespace Go.Proofs.Ytaabgcfeghcmnaa
open Go.ChangeShapes Go.WideShapes Go.ChangeAt Go.RowKit
theorem edo_in {H : Type} {enc : TypeId × Value → H} {W : World} {B : Nat} {cs : List Value} (h : InB B enc Try.prog W 24 cs) : ∃ x0 v1 x1 v2 x2, cs = [.int .i64 x0, v1, v2] ∧ (Lit.int .i64 x0).wf = true ∧ (RdI W .i32 v1 x1 ∧ x1.length * 4 ≤ B ∧ ∀ n ∈ x1, (Lit.int .i32 n).wf = true) ∧ (RdI W .i32 v2 x2 ∧ x2.length * 4 ≤ B ∧ ∀ n ∈ x2, (Lit.int .i32 n).wf = true) := by
  obtain ⟨hl, hf⟩ := h.struct Try.underlying24
  rw [show Try.prog.cellsOf 24 = 3 from by kernel_rfl] at hl
  match cs, hl with
  | [c0, c1, c2], _ =>
    have h0 : InB B enc Try.prog W 3 (([c0, c1, c2].drop 0).take (Try.prog.cellsOf 3)) := hf 0 _ rfl
    rw [show Try.prog.cellsOf 3 = 1 from by kernel_rfl] at h0
    obtain ⟨x0, e0, w0⟩ := h0.int Try.underlying3
    have h1 : InB B enc Try.prog W 22 (([c0, c1, c2].drop 1).take (Try.prog.cellsOf 22)) := hf 1 _ rfl
    rw [show Try.prog.cellsOf 22 = 1 from by kernel_rfl] at h1
    obtain ⟨v1, x1, e1, g1, b1, w1⟩ := h1.ints Try.underlying22 Try.underlying21 (by kernel_rfl)
    rw [show Try.prog.bytesOf 21 = 4 from by kernel_rfl] at b1
    have h2 : InB B enc Try.prog W 22 (([c0, c1, c2].drop 2).take (Try.prog.cellsOf 22)) := hf 2 _ rfl
    rw [show Try.prog.cellsOf 22 = 1 from by kernel_rfl] at h2
    obtain ⟨v2, x2, e2, g2, b2, w2⟩ := h2.ints Try.underlying22 Try.underlying21 (by kernel_rfl)
    rw [show Try.prog.bytesOf 21 = 4 from by kernel_rfl] at b2
    simp only [List.drop, List.take, List.cons.injEq, and_true] at e0 e1 e2
    exact ⟨x0, v1, x1, v2, x2, by simp_all, w0, ⟨g1, b1, w1⟩, ⟨g2, b2, w2⟩⟩
theorem uop_in {H : Type} {enc : TypeId × Value → H} {W : World} {B : Nat} {cs : List Value} (h : InB B enc Try.prog W 65 cs) : ∃ x0 y1_x0 y1_v1 y1_x1 y1_v2 y1_x2, cs = [.int .i64 x0, .int .i64 y1_x0, y1_v1, y1_v2] ∧ (Lit.int .i64 x0).wf = true ∧ (Lit.int .i64 y1_x0).wf = true ∧ (RdI W .i32 y1_v1 y1_x1 ∧ y1_x1.length * 4 ≤ B ∧ ∀ n ∈ y1_x1, (Lit.int .i32 n).wf = true) ∧ (RdI W .i32 y1_v2 y1_x2 ∧ y1_x2.length * 4 ≤ B ∧ ∀ n ∈ y1_x2, (Lit.int .i32 n).wf = true) := by
  obtain ⟨hl, hf⟩ := h.struct Try.underlying65
  rw [show Try.prog.cellsOf 65 = 4 from by kernel_rfl] at hl
  match cs, hl with
  | [c0, c1, c2, c3], _ =>
    have h0 : InB B enc Try.prog W 3 (([c0, c1, c2, c3].drop 0).take (Try.prog.cellsOf 3)) := hf 0 _ rfl
    rw [show Try.prog.cellsOf 3 = 1 from by kernel_rfl] at h0
    obtain ⟨x0, e0, w0⟩ := h0.int Try.underlying3
    have h1 : InB B enc Try.prog W 24 (([c0, c1, c2, c3].drop 1).take (Try.prog.cellsOf 24)) := hf 1 _ rfl
    rw [show Try.prog.cellsOf 24 = 3 from by kernel_rfl] at h1
    obtain ⟨y1_x0, y1_v1, y1_x1, y1_v2, y1_x2, e1, w1_0, w1_1, w1_2⟩ := edo_in h1
    simp only [List.drop, List.take, List.cons.injEq, and_true] at e0 e1
    exact ⟨x0, y1_x0, y1_v1, y1_x1, y1_v2, y1_x2, by simp_all, w0, w1_0, w1_1, w1_2⟩
end Go.Proofs.Ytaabgcfeghcmnaa
