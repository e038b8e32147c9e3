/- UndoOwn: the row. -/
import Derived.Test.YtaabgcfeghcmnaaRows
import Derived.Test.YtaabgcfeghcmnaaLawUOwn
import Derived.Test.YtaabgcfeghcmnaaUOp2In
set_option linter.unusedVariables false
namespace Go.Proofs.Ytaabgcfeghcmnaa
open Go.ChangeShapes Go.WideShapes Go.ChangeAt Go.RowKit

set_option maxRecDepth 100000 in
theorem undoOwn_lifted (os : Os) (started : os.Started) (H : Type) (enc : TypeId × Value → H) :
    ReturnsInHanded {} Try.checked os 5 .any (Rows.undoOwnSpec.pre6 enc Try.prog Try.f5 Rows.undoOwnRow.domain false) (Rows.undoOwnSpec.post enc Try.prog Try.f5 false true false false) := by
  refine law_lift (C := Try.checked) (tb := 4) _ own laid started (by kernel_rfl) Try.func5 (congrArg Array.toList Try.params5) rfl Try.underlying4 rfl (by kernel_rfl) (fun ds hd => ?_)
    (ChangeSpec.witness6 (enc := enc) (C := Try.checked) false ⟨#[], #[.slice none 0 0, .slice none 0 0], []⟩ 8 (by kernel_rfl) (by kernel_rfl) (by kernel_rfl) (by kernel_rfl)) ?_
  · obtain ⟨a0, a1, rfl⟩ := len_two hd
    rfl
  intro W args hin
  obtain ⟨v1, v2, rfl, ⟨⟨_, o1⟩, i1⟩, ⟨⟨_, o2⟩, i2⟩⟩ := hin.two
  obtain ⟨a1, n1, c1, rfl⟩ := okWide_slice Try.underlying22 o1
  obtain ⟨a2, n2, c2, rfl⟩ := okWide_slice Try.underlying39 o2
  obtain ⟨_, l, e1, g1, bl, -⟩ := i1.ints Try.underlying22 Try.underlying21 (by kernel_rfl)
  obtain rfl := List.singleton_inj.1 e1
  rw [show Try.prog.bytesOf 21 = 4 from by kernel_rfl, show reachBytes = 140737488351232 from rfl] at bl
  obtain ⟨u, n, xs, e2, h1, h2, h3⟩ := i2.slice Try.underlying39 (by rw [show Try.prog.cellsOf 24 = 3 from by kernel_rfl]; decide)
  rw [show Try.prog.cellsOf 24 = 3 from by kernel_rfl] at h1 h3
  obtain rfl := List.singleton_inj.1 e2
  obtain ⟨es, k1, k2, k3⟩ := rows_of (enc := BEd.enc) (p := fun o => o.Reads W) h1.len (fun k hk => by
    obtain ⟨x0, v1, x1, v2, x2, e, wa, ⟨gt, bt, -⟩, ⟨gu, bu, -⟩⟩ := edo_in (h3 k hk)
    rw [show reachBytes = 140737488351232 from rfl] at bt bu
    exact ⟨⟨x0, v1, x1, v2, x2⟩, e, gt, gu, by dsimp only; omega, by dsimp only; omega⟩)
  subst k1 k2
  exact undo_own g1 (by omega) h1 k3

theorem undoOwn_proved : Rows.UndoOwnSaid :=
  OpenClaim.holds_of_wide 5 Try.f5 rfl rfl rfl rfl rfl rfl rfl ⟨rfl, rfl, rfl, rfl, rfl⟩ rfl rfl rfl rfl rfl (by kernel_rfl) Try.func5 (by kernel_rfl)
    (of_decide_eq_true (by kernel_rfl)) (by unfold Func.isWrapper; first | (rw [if_pos (by decide +kernel)]; kernel_rfl) | (rw [if_neg (by decide +kernel)]; exact ⟨rfl, rfl⟩))
    (fun os started H enc _ => undoOwn_lifted os started H enc)
end Go.Proofs.Ytaabgcfeghcmnaa
