/- UndoDoes: the row. -/
import Derived.Test.YtaabgcfeghcmnaaRows
import Derived.Test.YtaabgcfeghcmnaaLawUDoes
import Derived.Test.YtaabgcfeghcmnaaUOp2In
set_option linter.unusedVariables false
namespace Go.Proofs.Ytaabgcfeghcmnaa
open Go.ChangeShapes Go.WideShapes Go.ChangeAt Go.RowKit

set_option maxRecDepth 100000 in
theorem undoDoes_lifted (os : Os) (started : os.Started) (H : Type) (enc : TypeId × Value → H) :
    ReturnsInHanded {} Try.checked os 7 .any (Rows.undoDoesSpec.pre6 enc Try.prog Try.f7 Rows.undoDoesRow.domain false) (Rows.undoDoesSpec.post enc Try.prog Try.f7 false true false false) := by
  refine law_lift (C := Try.checked) (tb := 4) _ own laid started (by kernel_rfl) Try.func7 (congrArg Array.toList Try.params7) rfl Try.underlying4 rfl (by kernel_rfl) (fun ds hd => ?_)
    (ChangeSpec.witness6 (enc := enc) (C := Try.checked) false ⟨#[], #[.slice none 0 0], []⟩ 8 (by kernel_rfl) (by kernel_rfl) (by kernel_rfl) (by kernel_rfl)) ?_
  · obtain ⟨a0, rfl⟩ := len_one hd
    rfl
  intro W args hin
  obtain ⟨v1, rfl, ⟨_, o1⟩, i1⟩ := hin.one
  obtain ⟨a1, n1, c1, rfl⟩ := okWide_slice Try.underlying63 o1
  obtain ⟨u, n, xs, e2, h1, h2, h3⟩ := i1.slice Try.underlying63 (by rw [show Try.prog.cellsOf 65 = 4 from by kernel_rfl]; decide)
  rw [show Try.prog.cellsOf 65 = 4 from by kernel_rfl] at h1 h3
  obtain rfl := List.singleton_inj.1 e2
  obtain ⟨ops, k1, k2, k3⟩ := rows_of (enc := UOp.enc) (p := fun o => o.Reads W) h1.len (fun k hk => by
    obtain ⟨x0, y1_x0, y1_v1, y1_x1, y1_v2, y1_x2, e, wa, wb, ⟨gt, bt, -⟩, ⟨gu, bu, -⟩⟩ := uop_in (h3 k hk)
    rw [show reachBytes = 140737488351232 from rfl] at bt bu
    exact ⟨⟨x0, y1_x0, y1_v1, y1_x1, y1_v2, y1_x2⟩, e, gt, gu, by dsimp only; omega, by dsimp only; omega⟩)
  subst k1 k2
  rw [show Try.prog.bytesOf 65 = 64 from by kernel_rfl, show reachBytes = 140737488351232 from rfl] at h2
  exact undo_does h1 k3 (by omega)

theorem undoDoes_proved : Rows.UndoDoesSaid :=
  OpenClaim.holds_of_wide 7 Try.f7 rfl rfl rfl rfl rfl rfl rfl ⟨rfl, rfl, rfl, rfl, rfl⟩ rfl rfl rfl rfl rfl (by kernel_rfl) Try.func7 (by kernel_rfl)
    (of_decide_eq_true (by kernel_rfl)) (by unfold Func.isWrapper; first | (rw [if_pos (by decide +kernel)]; kernel_rfl) | (rw [if_neg (by decide +kernel)]; exact ⟨rfl, rfl⟩))
    (fun os started H enc _ => undoDoes_lifted os started H enc)
end Go.Proofs.Ytaabgcfeghcmnaa
