/- What edits and steps read as. -/
import Derived.Test.YtaabgcfeghcmnaaOwn
set_option linter.unusedSimpArgs false
set_option linter.unusedVariables false
namespace Go.Proofs.Ytaabgcfeghcmnaa
open Go.ChangeShapes Go.WideShapes Go.ChangeAt Go.RowKit
theorem ed_in {H : Type} {enc : TypeId × Value → H} {W : World} {B : Nat} {cs : List Value} (h : InB B enc Try.prog W 24 cs) : ∃ x0 v1 x1 v2 x2, cs = [.int .i64 x0, v1, v2] ∧ (Lit.int .i64 x0).wf = true ∧ (RdI W .i32 v1 x1 ∧ x1.length * 4 ≤ B ∧ ∀ n ∈ x1, (Lit.int .i32 n).wf = true) ∧ (RdI W .i32 v2 x2 ∧ x2.length * 4 ≤ B ∧ ∀ n ∈ x2, (Lit.int .i32 n).wf = true) := by
  obtain ⟨hl, hf⟩ := h.struct Try.underlying24
  rw [show Try.prog.cellsOf 24 = 3 from by kernel_rfl] at hl
  match cs, hl with
  | [c0, c1, c2], _ =>
    have h0 : InB B enc Try.prog W 3 (([c0, c1, c2].drop 0).take (Try.prog.cellsOf 3)) := hf 0 _ rfl
    rw [show Try.prog.cellsOf 3 = 1 from by kernel_rfl] at h0
    obtain ⟨x0, e0, w0⟩ := h0.int Try.underlying3
    have h1 : InB B enc Try.prog W 22 (([c0, c1, c2].drop 1).take (Try.prog.cellsOf 22)) := hf 1 _ rfl
    rw [show Try.prog.cellsOf 22 = 1 from by kernel_rfl] at h1
    obtain ⟨v1, x1, e1, g1, b1, w1⟩ := h1.ints Try.underlying22 Try.underlying21 (by kernel_rfl)
    rw [show Try.prog.bytesOf 21 = 4 from by kernel_rfl] at b1
    have h2 : InB B enc Try.prog W 22 (([c0, c1, c2].drop 2).take (Try.prog.cellsOf 22)) := hf 2 _ rfl
    rw [show Try.prog.cellsOf 22 = 1 from by kernel_rfl] at h2
    obtain ⟨v2, x2, e2, g2, b2, w2⟩ := h2.ints Try.underlying22 Try.underlying21 (by kernel_rfl)
    rw [show Try.prog.bytesOf 21 = 4 from by kernel_rfl] at b2
    simp only [List.drop, List.take, List.cons.injEq, and_true] at e0 e1 e2
    exact ⟨x0, v1, x1, v2, x2, by simp_all, w0, ⟨g1, b1, w1⟩, ⟨g2, b2, w2⟩⟩
theorem step_in {H : Type} {enc : TypeId × Value → H} {W : World} {B : Nat} {cs : List Value} (h : InB B enc Try.prog W 36 cs) : ∃ x0 x1 v2 x2 x3 x4, cs = [.int .i64 x0, .int .i64 x1, v2, .bool x3, .bool x4] ∧ (Lit.int .i64 x0).wf = true ∧ (Lit.int .i64 x1).wf = true ∧ (RdI W .i32 v2 x2 ∧ x2.length * 4 ≤ B ∧ ∀ n ∈ x2, (Lit.int .i32 n).wf = true) := by
  obtain ⟨hl, hf⟩ := h.struct Try.underlying36
  rw [show Try.prog.cellsOf 36 = 5 from by kernel_rfl] at hl
  match cs, hl with
  | [c0, c1, c2, c3, c4], _ =>
    have h0 : InB B enc Try.prog W 3 (([c0, c1, c2, c3, c4].drop 0).take (Try.prog.cellsOf 3)) := hf 0 _ rfl
    rw [show Try.prog.cellsOf 3 = 1 from by kernel_rfl] at h0
    obtain ⟨x0, e0, w0⟩ := h0.int Try.underlying3
    have h1 : InB B enc Try.prog W 3 (([c0, c1, c2, c3, c4].drop 1).take (Try.prog.cellsOf 3)) := hf 1 _ rfl
    rw [show Try.prog.cellsOf 3 = 1 from by kernel_rfl] at h1
    obtain ⟨x1, e1, w1⟩ := h1.int Try.underlying3
    have h2 : InB B enc Try.prog W 22 (([c0, c1, c2, c3, c4].drop 2).take (Try.prog.cellsOf 22)) := hf 2 _ rfl
    rw [show Try.prog.cellsOf 22 = 1 from by kernel_rfl] at h2
    obtain ⟨v2, x2, e2, g2, b2, w2⟩ := h2.ints Try.underlying22 Try.underlying21 (by kernel_rfl)
    rw [show Try.prog.bytesOf 21 = 4 from by kernel_rfl] at b2
    have h3 : InB B enc Try.prog W 4 (([c0, c1, c2, c3, c4].drop 3).take (Try.prog.cellsOf 4)) := hf 3 _ rfl
    rw [show Try.prog.cellsOf 4 = 1 from by kernel_rfl] at h3
    obtain ⟨x3, e3⟩ := h3.bool Try.underlying4
    have h4 : InB B enc Try.prog W 4 (([c0, c1, c2, c3, c4].drop 4).take (Try.prog.cellsOf 4)) := hf 4 _ rfl
    rw [show Try.prog.cellsOf 4 = 1 from by kernel_rfl] at h4
    obtain ⟨x4, e4⟩ := h4.bool Try.underlying4
    simp only [List.drop, List.take, List.cons.injEq, and_true] at e0 e1 e2 e3 e4
    exact ⟨x0, x1, v2, x2, x3, x4, by simp_all, w0, w1, ⟨g2, b2, w2⟩⟩
theorem wf_i64 {n : Int} (h : (Lit.int .i64 n).wf = true) : -9223372036854775808 ≤ n ∧ n ≤ 9223372036854775807 := by
  simp [Lit.wf, IntKind.min, IntKind.max, IntKind.signed, IntKind.bits] at h
  omega
end Go.Proofs.Ytaabgcfeghcmnaa
