/- UndoNone: the row. -/
import Derived.Test.YtaabgcfeghcmnaaRows
import Derived.Test.YtaabgcfeghcmnaaLawUNone
import Derived.Test.YtaabgcfeghcmnaaUOpIn
set_option linter.unusedVariables false
namespace Go.Proofs.Ytaabgcfeghcmnaa
open Go.ChangeShapes Go.WideShapes Go.ChangeAt Go.RowKit

set_option maxRecDepth 100000 in
theorem undoNone_lifted (os : Os) (started : os.Started) (H : Type) (enc : TypeId × Value → H) :
    ReturnsInHanded {} Try.checked os 8 .any (Rows.undoNoneSpec.pre6 enc Try.prog Try.f8 Rows.undoNoneRow.domain false) (Rows.undoNoneSpec.post enc Try.prog Try.f8 false true false false) := by
  refine law_lift (C := Try.checked) (tb := 4) _ own laid started (by kernel_rfl) Try.func8 (congrArg Array.toList Try.params8) rfl Try.underlying4 rfl (by kernel_rfl) (fun ds hd => ?_)
    (ChangeSpec.witness6 (enc := enc) (C := Try.checked) false ⟨#[], #[.agg #[.int .i64 0, .slice none 0 0, .slice none 0 0]], []⟩ 8 (by kernel_rfl) (by kernel_rfl) (by kernel_rfl) (by kernel_rfl)) ?_
  · obtain ⟨a0, rfl⟩ := len_one hd
    rfl
  intro W args hin
  obtain ⟨v1, rfl, ⟨_, o1⟩, i1⟩ := hin.one
  obtain ⟨cs, rfl, -⟩ := okWide_struct Try.underlying24 o1
  obtain ⟨x0, v1, x1, v2, x2, e2, wa, ⟨g2, c2, -⟩, ⟨g3, c3, -⟩⟩ := ed_in i1
  obtain rfl : cs = #[.int .i64 x0, v1, v2] := Array.ext' e2
  exact undo_none g2.one g3.one rfl

theorem undoNone_proved : Rows.UndoNoneSaid :=
  OpenClaim.holds_of_wide 8 Try.f8 rfl rfl rfl rfl rfl rfl rfl ⟨rfl, rfl, rfl, rfl, rfl⟩ rfl rfl rfl rfl rfl (by kernel_rfl) Try.func8 (by kernel_rfl)
    (of_decide_eq_true (by kernel_rfl)) (by unfold Func.isWrapper; first | (rw [if_pos (by decide +kernel)]; kernel_rfl) | (rw [if_neg (by decide +kernel)]; exact ⟨rfl, rfl⟩))
    (fun os started H enc _ => undoNone_lifted os started H enc)
end Go.Proofs.Ytaabgcfeghcmnaa
