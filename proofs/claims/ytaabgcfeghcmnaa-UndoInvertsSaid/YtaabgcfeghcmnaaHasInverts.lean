/- UndoInverts: the row. -/
import Derived.Test.YtaabgcfeghcmnaaRows
import Derived.Test.YtaabgcfeghcmnaaLawInverts
import Derived.Test.YtaabgcfeghcmnaaUOpIn
set_option linter.unusedVariables false
namespace Go.Proofs.Ytaabgcfeghcmnaa
open Go.ChangeShapes Go.WideShapes Go.ChangeAt Go.RowKit

set_option maxRecDepth 100000 in
theorem undoInverts_lifted (os : Os) (started : os.Started) (H : Type) (enc : TypeId × Value → H) :
    ReturnsInHanded {} Try.checked os 4 .any (Rows.undoInvertsSpec.pre6 enc Try.prog Try.f4 Rows.undoInvertsRow.domain false) (Rows.undoInvertsSpec.post enc Try.prog Try.f4 false true false false) := by
  refine law_lift (C := Try.checked) (tb := 4) _ own laid started (by kernel_rfl) Try.func4 (congrArg Array.toList Try.params4) rfl Try.underlying4 rfl (by kernel_rfl) (fun ds hd => ?_)
    (ChangeSpec.witness6 (enc := enc) (C := Try.checked) false ⟨#[], #[.slice none 0 0, .agg #[.int .i64 0, .int .i64 0, .slice none 0 0, .bool false, .bool false], .agg #[.int .i64 0, .int .i64 0, .slice none 0 0, .bool false, .bool false]], []⟩ 8 (by kernel_rfl) (by kernel_rfl) (by kernel_rfl) (by kernel_rfl)) ?_
  · obtain ⟨a0, a1, a2, rfl⟩ := len_three hd
    rfl
  intro W args hin
  obtain ⟨v1, v2, v3, rfl, ⟨⟨_, o1⟩, i1⟩, ⟨⟨_, o2⟩, i2⟩, ⟨⟨_, o3⟩, i3⟩⟩ := hin.three
  obtain ⟨a1, n1, c1, rfl⟩ := okWide_slice Try.underlying22 o1
  obtain ⟨cs, rfl, -⟩ := okWide_struct Try.underlying36 o2
  obtain ⟨ds, rfl, -⟩ := okWide_struct Try.underlying36 o3
  obtain ⟨_, l, e1, g1, bl, -⟩ := i1.ints Try.underlying22 Try.underlying21 (by kernel_rfl)
  obtain rfl := List.singleton_inj.1 e1
  obtain ⟨x0, x1, v2, x2, x3, x4, e2, wa, -, ⟨g2, bz, -⟩⟩ := step_in i2
  obtain ⟨y0, y1, u2, y2, y3, y4, e3, wb, -, ⟨g3, bz2, -⟩⟩ := step_in i3
  obtain rfl : cs = #[.int .i64 x0, .int .i64 x1, v2, .bool x3, .bool x4] := Array.ext' e2
  obtain rfl : ds = #[.int .i64 y0, .int .i64 y1, u2, .bool y3, .bool y4] := Array.ext' e3
  rw [show Try.prog.bytesOf 21 = 4 from by kernel_rfl] at bl
  rw [show reachBytes = 140737488351232 from rfl] at bl bz bz2
  exact undo_inverts g1 g2 g3 (by omega) (by omega) (by omega) (wf_i64 wa).2 (wf_i64 wb).2

theorem undoInverts_proved : Rows.UndoInvertsSaid :=
  OpenClaim.holds_of_wide 4 Try.f4 rfl rfl rfl rfl rfl rfl rfl ⟨rfl, rfl, rfl, rfl, rfl⟩ rfl rfl rfl rfl rfl (by kernel_rfl) Try.func4 (by kernel_rfl)
    (of_decide_eq_true (by kernel_rfl)) (by unfold Func.isWrapper; first | (rw [if_pos (by decide +kernel)]; kernel_rfl) | (rw [if_neg (by decide +kernel)]; exact ⟨rfl, rfl⟩))
    (fun os started H enc _ => undoInverts_lifted os started H enc)
end Go.Proofs.Ytaabgcfeghcmnaa
