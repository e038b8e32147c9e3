/- WordsOwn: the row of the second form. -/
import Derived.Test.YtgoopiakpbcgoaaRows
import Derived.Test.YtgoopiakpbcgoaaShIn
import Derived.Test.YtgoopiakpbcgoaaLawWOwn
import Derived.Test.YtgoopiakpbcgoaaOwn
set_option linter.unusedVariables false
namespace Go.Proofs.Ytgoopiakpbcgoaa
open Go.ChangeShapes Go.WideShapes Go.ChangeAt Go.RowKit
set_option maxRecDepth 100000 in
theorem wordsOwn_liftedU (os : Os) (started : os.Started) (H : Type) (enc : TypeId × Value → H) (F : Stop.Interp) :
    ReturnsInHanded {} Try.checked os 7 .any ((Rows.OpenSpec.upto Rows.wordsOwnSpec).pre6 enc Try.prog Try.f7 Rows.wordsOwnUptoRow.domain false) (((Rows.OpenSpec.upto Rows.wordsOwnSpec).at F).post enc Try.prog Try.f7 false true false false) := by
  refine law_lift_upto (C := Try.checked) (tb := 4) (M := 4096) (z := 90) _ (by kernel_rfl) (by decide) (by kernel_rfl) own laid started (by kernel_rfl) Try.func7 (congrArg Array.toList Try.params7) rfl Try.underlying4 rfl (by kernel_rfl) (fun ds hd => ?_)
    (OpenSpec.witness (enc := enc) (C := Try.checked) (s := Rows.OpenSpec.upto Rows.wordsOwnSpec) (k := Rows.uptoSmall) rfl false ⟨#[], #[.slice none 0 0, .int .i64 0], []⟩ 8 (by kernel_rfl) (by kernel_rfl) (by kernel_rfl)
      (x := ([.nil, .lit (.int .i64 0)], [], [])) (by kernel_rfl) rfl (by kernel_rfl)) ?_
  · obtain ⟨a0, a1, rfl⟩ := len_two hd
    rfl
  intro W args hin
  obtain ⟨v1, v2, rfl, ⟨⟨_, o1⟩, i1⟩, ⟨⟨_, o2⟩, i2⟩⟩ := hin.two
  obtain ⟨a1, n1, c1, rfl⟩ := okWide_slice Try.underlying22 o1
  obtain ⟨x2, rfl⟩ := okWide_int Try.underlying3 o2
  obtain ⟨_, l, e1, g1, bl, wl⟩ := i1.ints Try.underlying22 Try.underlying21 (by kernel_rfl)
  obtain rfl := List.singleton_inj.1 e1
  rw [show Try.prog.bytesOf 21 = 4 from by kernel_rfl] at bl
  exact words_own g1 (swf_i32 wl) (by omega)

theorem wordsOwn_upto : Rows.WordsOwnUptoSaid :=
  OpenClaim.holds_of_cond 7 Try.f7 rfl rfl rfl rfl rfl rfl rfl ⟨rfl, rfl, rfl, rfl, rfl⟩ rfl rfl rfl rfl rfl (by kernel_rfl) Try.func7 (by kernel_rfl)
    (of_decide_eq_true (by kernel_rfl)) (by unfold Func.isWrapper; first | (rw [if_pos (by decide +kernel)]; kernel_rfl) | (rw [if_neg (by decide +kernel)]; exact ⟨rfl, rfl⟩))
    (fun os started H enc _ F => wordsOwn_liftedU os started H enc F)
end Go.Proofs.Ytgoopiakpbcgoaa
