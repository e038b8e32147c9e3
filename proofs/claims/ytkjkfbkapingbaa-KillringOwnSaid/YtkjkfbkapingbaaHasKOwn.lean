/- KillringOwn: the row. -/
import Derived.Test.YtkjkfbkapingbaaRows
import Derived.Test.YtkjkfbkapingbaaLawKOwn
import Derived.Test.YtkjkfbkapingbaaOwn
set_option linter.unusedVariables false
namespace Go.Proofs.Ytkjkfbkapingbaa
open Go.ChangeShapes Go.WideShapes Go.ChangeAt Go.RowKit

set_option maxRecDepth 100000 in
theorem killringOwn_lifted (os : Os) (started : os.Started) (H : Type) (enc : TypeId × Value → H) :
    ReturnsInHanded {} Try.checked os 8 .any (Rows.killringOwnSpec.pre6 enc Try.prog Try.f8 Rows.killringOwnRow.domain false) (Rows.killringOwnSpec.post enc Try.prog Try.f8 false true false false) := by
  refine law_lift (C := Try.checked) (tb := 4) _ own laid started (by kernel_rfl) Try.func8 (congrArg Array.toList Try.params8) rfl Try.underlying4 rfl (by kernel_rfl) (fun ds hd => ?_)
    (ChangeSpec.witness6 (enc := enc) (C := Try.checked) false ⟨#[], #[.slice none 0 0, .slice none 0 0], []⟩ 8 (by kernel_rfl) (by kernel_rfl) (by kernel_rfl) (by kernel_rfl)) ?_
  · obtain ⟨a0, a1, rfl⟩ := len_two hd
    rfl
  intro W args hin
  obtain ⟨v1, v2, rfl, ⟨⟨_, o1⟩, i1⟩, ⟨⟨_, o2⟩, i2⟩⟩ := hin.two
  obtain ⟨a1, n1, c1, rfl⟩ := okWide_slice Try.underlying23 o1
  obtain ⟨a2, n2, c2, rfl⟩ := okWide_slice Try.underlying22 o2
  obtain ⟨_, vs, ls, e1, g2, hb2, g3⟩ := i1.row Try.underlying23 Try.underlying22 Try.underlying21 (by kernel_rfl) (by kernel_rfl)
  obtain ⟨_, text, e2, gt, hbt, -⟩ := i2.ints Try.underlying22 Try.underlying21 (by kernel_rfl)
  obtain rfl := List.singleton_inj.1 e1
  obtain rfl := List.singleton_inj.1 e2
  rw [show Try.prog.bytesOf 21 = 4 from by kernel_rfl, show reachBytes = 140737488351232 from rfl] at hbt
  rw [show Try.prog.bytesOf 22 = 24 from by kernel_rfl, show reachBytes = 140737488351232 from rfl] at hb2
  have g4 : ∀ k, k < ls.length → (ls.getD k []).length * 4 ≤ 140737488351232 := fun k hk => by
    have := (g3 k hk).2.1
    rwa [show Try.prog.bytesOf 21 = 4 from by kernel_rfl, show reachBytes = 140737488351232 from rfl] at this
  exact killring_own g2 (fun k hk => (g3 k hk).1) gt hb2 g4 hbt

theorem killringOwn_proved : Rows.KillringOwnSaid :=
  OpenClaim.holds_of_wide 8 Try.f8 rfl rfl rfl rfl rfl rfl rfl ⟨rfl, rfl, rfl, rfl, rfl⟩ rfl rfl rfl rfl rfl (by kernel_rfl) Try.func8 (by kernel_rfl)
    (of_decide_eq_true (by kernel_rfl)) (by unfold Func.isWrapper; first | (rw [if_pos (by decide +kernel)]; kernel_rfl) | (rw [if_neg (by decide +kernel)]; exact ⟨rfl, rfl⟩))
    (fun os started H enc _ => killringOwn_lifted os started H enc)
end Go.Proofs.Ytkjkfbkapingbaa
