/- KillringJoins: the row. -/
import Derived.Test.YtkjkfbkapingbaaRows
import Derived.Test.YtkjkfbkapingbaaLawJoins
import Derived.Test.YtkjkfbkapingbaaLift
set_option linter.unusedVariables false
namespace Go.Proofs.Ytkjkfbkapingbaa
open Go.ChangeShapes Go.WideShapes Go.ChangeAt Go.RowKit

theorem own : ownKnob Try.prog.godebug = none := by kernel_rfl
theorem laid : laidOutB Try.prog = true := by kernel_rfl

set_option maxRecDepth 100000 in
theorem killringJoins_lifted (os : Os) (started : os.Started) (H : Type) (enc : TypeId × Value → H) :
    ReturnsInHanded {} Try.checked os 3 .any (Rows.killringJoinsSpec.pre6 enc Try.prog Try.f3 Rows.killringJoinsRow.domain false) (Rows.killringJoinsSpec.post enc Try.prog Try.f3 false true false false) := by
  refine law_lift (C := Try.checked) (tb := 4) _ own laid started (by kernel_rfl) Try.func3 (congrArg Array.toList Try.params3) rfl Try.underlying4 rfl (by kernel_rfl) (fun ds hd => ?_)
    (ChangeSpec.witness6 (enc := enc) (C := Try.checked) false ⟨#[], #[.slice none 0 0, .slice none 0 0, .bool false], []⟩ 8 (by kernel_rfl) (by kernel_rfl) (by kernel_rfl) (by kernel_rfl)) ?_
  · obtain ⟨a, b, c, rfl⟩ := len_three hd
    rfl
  intro W args hsh hh hin
  clear hh
  obtain ⟨v1, v2, v3, rfl, ⟨⟨_, o1⟩, i1⟩, ⟨⟨_, o2⟩, i2⟩, ⟨⟨_, o3⟩, i3⟩⟩ := hin.three
  obtain ⟨b, rfl⟩ := okWide_bool Try.underlying4 o3
  obtain ⟨a1, n1, c1, rfl⟩ := okWide_slice Try.underlying22 o1
  obtain ⟨a2, n2, c2, rfl⟩ := okWide_slice Try.underlying23 o2
  obtain ⟨_, l1, e1, g1, hb1, -⟩ := i1.ints Try.underlying22 Try.underlying21 (by kernel_rfl)
  obtain ⟨_, vs, ls, e2, g2, hb2, g3⟩ := i2.row Try.underlying23 Try.underlying22 Try.underlying21 (by kernel_rfl) (by kernel_rfl)
  obtain rfl := List.singleton_inj.1 e1
  obtain rfl := List.singleton_inj.1 e2
  rw [show Try.prog.bytesOf 21 = 4 from by kernel_rfl] at hb1 g3
  exact killring_joins b g1 (Nat.le_trans hb1 (by decide)) g2 (fun k hk => (g3 k hk).1) (fun k hk => Nat.le_trans (g3 k hk).2.1 (by decide))

theorem killringJoins_proved : Rows.KillringJoinsSaid :=
  OpenClaim.holds_of_wide 3 Try.f3 rfl rfl rfl rfl rfl rfl rfl ⟨rfl, rfl, rfl, rfl, rfl⟩ rfl rfl rfl rfl rfl (by kernel_rfl) Try.func3 (by kernel_rfl)
    (of_decide_eq_true (by kernel_rfl)) (by unfold Func.isWrapper; first | (rw [if_pos (by decide +kernel)]; kernel_rfl) | (rw [if_neg (by decide +kernel)]; exact ⟨rfl, rfl⟩))
    (fun os started H enc _ => killringJoins_lifted os started H enc)

end Go.Proofs.Ytkjkfbkapingbaa
