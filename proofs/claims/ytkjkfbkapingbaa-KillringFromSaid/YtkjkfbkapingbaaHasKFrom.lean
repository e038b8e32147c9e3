/- KillringFrom: the row. -/
import Derived.Test.YtkjkfbkapingbaaRows
import Derived.Test.YtkjkfbkapingbaaLawKFrom
import Derived.Test.YtkjkfbkapingbaaOwn
set_option linter.unusedVariables false
namespace Go.Proofs.Ytkjkfbkapingbaa
open Go.ChangeShapes Go.WideShapes Go.ChangeAt Go.RowKit

set_option maxRecDepth 100000 in
theorem killringFrom_lifted (os : Os) (started : os.Started) (H : Type) (enc : TypeId × Value → H) :
    ReturnsInHanded {} Try.checked os 7 .any (Rows.killringFromSpec.pre6 enc Try.prog Try.f7 Rows.killringFromRow.domain false) (Rows.killringFromSpec.post enc Try.prog Try.f7 false true false false) := by
  refine law_lift (C := Try.checked) (tb := 4) _ own laid started (by kernel_rfl) Try.func7 (congrArg Array.toList Try.params7) rfl Try.underlying4 rfl (by kernel_rfl) (fun ds hd => ?_)
    (ChangeSpec.witness6 (enc := enc) (C := Try.checked) false ⟨#[], #[.slice none 0 0], []⟩ 8 (by kernel_rfl) (by kernel_rfl) (by kernel_rfl) (by kernel_rfl)) ?_
  · obtain ⟨a0, rfl⟩ := len_one hd
    rfl
  intro W args hin
  obtain ⟨v1, rfl, ⟨_, o1⟩, i1⟩ := hin.one
  obtain ⟨a1, n1, c1, rfl⟩ := okWide_slice Try.underlying23 o1
  obtain ⟨_, vs, ls, e1, g2, hb2, g3⟩ := i1.row Try.underlying23 Try.underlying22 Try.underlying21 (by kernel_rfl) (by kernel_rfl)
  obtain rfl := List.singleton_inj.1 e1
  exact killring_from g2 (fun k hk => (g3 k hk).1)

theorem killringFrom_proved : Rows.KillringFromSaid :=
  OpenClaim.holds_of_wide 7 Try.f7 rfl rfl rfl rfl rfl rfl rfl ⟨rfl, rfl, rfl, rfl, rfl⟩ rfl rfl rfl rfl rfl (by kernel_rfl) Try.func7 (by kernel_rfl)
    (of_decide_eq_true (by kernel_rfl)) (by unfold Func.isWrapper; first | (rw [if_pos (by decide +kernel)]; kernel_rfl) | (rw [if_neg (by decide +kernel)]; exact ⟨rfl, rfl⟩))
    (fun os started H enc _ => killringFrom_lifted os started H enc)
end Go.Proofs.Ytkjkfbkapingbaa
