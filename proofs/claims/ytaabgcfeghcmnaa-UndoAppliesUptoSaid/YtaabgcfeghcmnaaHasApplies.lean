/- UndoApplies: the row of the second form. -/
import Derived.Test.YtaabgcfeghcmnaaRows
import Derived.Test.YtaabgcfeghcmnaaLawApplies
import Derived.Test.YtaabgcfeghcmnaaUOpIn
import Derived.Test.YtaabgcfeghcmnaaUpto
set_option linter.unusedVariables false
namespace Go.Proofs.Ytaabgcfeghcmnaa
open Go.ChangeShapes Go.WideShapes Go.ChangeAt Go.RowKit

set_option maxRecDepth 100000 in
theorem undoApplies_liftedU (os : Os) (started : os.Started) (H : Type) (enc : TypeId × Value → H) (F : Stop.Interp) :
    ReturnsInHanded {} Try.checked os 3 .any ((Rows.OpenSpec.upto Rows.undoAppliesSpec).pre6 enc Try.prog Try.f3 Rows.undoAppliesUptoRow.domain false) (((Rows.OpenSpec.upto Rows.undoAppliesSpec).at F).post enc Try.prog Try.f3 false true false false) := by
  refine law_lift_upto (C := Try.checked) (tb := 4) (M := 4096) (z := 105) _ (by kernel_rfl) (by decide) (by kernel_rfl) own laid started (by kernel_rfl) Try.func3 (congrArg Array.toList Try.params3) rfl Try.underlying4 rfl (by kernel_rfl) (fun ds hd => ?_)
    (OpenSpec.witness (enc := enc) (C := Try.checked) (s := Rows.OpenSpec.upto Rows.undoAppliesSpec) (k := Rows.uptoSmall) rfl false ⟨#[], #[.slice none 0 0, .agg #[.int .i64 0, .slice none 0 0, .slice none 0 0], .agg #[.int .i64 0, .slice none 0 0, .slice none 0 0]], []⟩ 8 (by kernel_rfl) (by kernel_rfl) (by kernel_rfl)
      (x := ([.nil, .agg [.lit (.int .i64 0), .nil, .nil], .agg [.lit (.int .i64 0), .nil, .nil]], [], [])) (by kernel_rfl) rfl (by kernel_rfl)) ?_
  · obtain ⟨a0, a1, a2, rfl⟩ := len_three hd
    rfl
  intro W args hin
  obtain ⟨v1, v2, v3, rfl, ⟨⟨_, o1⟩, i1⟩, ⟨⟨_, o2⟩, i2⟩, ⟨⟨_, o3⟩, i3⟩⟩ := hin.three
  obtain ⟨a1, n1, c1, rfl⟩ := okWide_slice Try.underlying22 o1
  obtain ⟨cs, rfl, -⟩ := okWide_struct Try.underlying24 o2
  obtain ⟨ds, rfl, -⟩ := okWide_struct Try.underlying24 o3
  obtain ⟨_, l, e1, g1, bl, -⟩ := i1.ints Try.underlying22 Try.underlying21 (by kernel_rfl)
  obtain rfl := List.singleton_inj.1 e1
  obtain ⟨x0, v1, x1, v2, x2, e2, wa, ⟨g2, c2, -⟩, ⟨g3, c3, -⟩⟩ := ed_in i2
  obtain ⟨y0, u1, y1, u2, y2, e3, wb, ⟨g4, c4, -⟩, ⟨g5, c5, -⟩⟩ := ed_in i3
  obtain rfl : cs = #[.int .i64 x0, v1, v2] := Array.ext' e2
  obtain rfl : ds = #[.int .i64 y0, u1, u2] := Array.ext' e3
  rw [show Try.prog.bytesOf 21 = 4 from by kernel_rfl] at bl
  exact undo_applies g1 g2 g3 g4 g5 (by omega) (by omega) (by omega) (by omega) (by omega) (wf_i64 wa) (wf_i64 wb)

theorem undoApplies_upto : Rows.UndoAppliesUptoSaid :=
  OpenClaim.holds_of_cond 3 Try.f3 rfl rfl rfl rfl rfl rfl rfl ⟨rfl, rfl, rfl, rfl, rfl⟩ rfl rfl rfl rfl rfl (by kernel_rfl) Try.func3 (by kernel_rfl)
    (of_decide_eq_true (by kernel_rfl)) (by unfold Func.isWrapper; first | (rw [if_pos (by decide +kernel)]; kernel_rfl) | (rw [if_neg (by decide +kernel)]; exact ⟨rfl, rfl⟩))
    (fun os started H enc _ F => undoApplies_liftedU os started H enc F)
end Go.Proofs.Ytaabgcfeghcmnaa
