/- KillringRound: the row. -/
import Derived.Test.YtkjkfbkapingbaaRows
import Derived.Test.YtkjkfbkapingbaaLawRound
import Derived.Test.YtkjkfbkapingbaaOwn
set_option linter.unusedVariables false
namespace Go.Proofs.Ytkjkfbkapingbaa
open Go.ChangeShapes Go.WideShapes Go.ChangeAt Go.RowKit

set_option maxRecDepth 100000 in
theorem killringRound_lifted (os : Os) (started : os.Started) (H : Type) (enc : TypeId × Value → H) :
    ReturnsInHanded {} Try.checked os 6 .any (Rows.killringRoundSpec.pre6 enc Try.prog Try.f6 Rows.killringRoundRow.domain false) (Rows.killringRoundSpec.post enc Try.prog Try.f6 false true false false) := by
  refine law_lift (C := Try.checked) (tb := 4) _ own laid started (by kernel_rfl) Try.func6 (congrArg Array.toList Try.params6) rfl Try.underlying4 rfl (by kernel_rfl) (fun ds hd => ?_)
    (ChangeSpec.witness6 (enc := enc) (C := Try.checked) false ⟨#[], #[.slice none 0 0, .bool false], []⟩ 8 (by kernel_rfl) (by kernel_rfl) (by kernel_rfl) (by kernel_rfl)) ?_
  · obtain ⟨a0, a1, rfl⟩ := len_two hd
    rfl
  intro W args hsh hh hin
  clear hh
  obtain ⟨v1, v2, rfl, ⟨⟨_, o1⟩, i1⟩, ⟨⟨_, o2⟩, i2⟩⟩ := hin.two
  obtain ⟨b, rfl⟩ := okWide_bool Try.underlying4 o2
  obtain ⟨a1, n1, c1, rfl⟩ := okWide_slice Try.underlying23 o1
  obtain ⟨_, vs, ls, e1, g2, hb2, g3⟩ := i1.row Try.underlying23 Try.underlying22 Try.underlying21 (by kernel_rfl) (by kernel_rfl)
  obtain rfl := List.singleton_inj.1 e1
  exact killring_round b g2 (fun k hk => (g3 k hk).1)

theorem killringRound_proved : Rows.KillringRoundSaid :=
  OpenClaim.holds_of_wide 6 Try.f6 rfl rfl rfl rfl rfl rfl rfl ⟨rfl, rfl, rfl, rfl, rfl⟩ rfl rfl rfl rfl rfl (by kernel_rfl) Try.func6 (by kernel_rfl)
    (of_decide_eq_true (by kernel_rfl)) (by unfold Func.isWrapper; first | (rw [if_pos (by decide +kernel)]; kernel_rfl) | (rw [if_neg (by decide +kernel)]; exact ⟨rfl, rfl⟩))
    (fun os started H enc _ => killringRound_lifted os started H enc)
end Go.Proofs.Ytkjkfbkapingbaa
