/- WordsJoin: the row of the second form. -/
import Derived.Test.YtgoopiakpbcgoaaRows
import Derived.Test.YtgoopiakpbcgoaaShIn
import Derived.Test.YtgoopiakpbcgoaaSum
import Derived.Test.YtgoopiakpbcgoaaLawWJoin
import Derived.Test.YtgoopiakpbcgoaaOwn
set_option linter.unusedVariables false
namespace Go.Proofs.Ytgoopiakpbcgoaa
open Go.ChangeShapes Go.WideShapes Go.ChangeAt Go.RowKit
set_option maxRecDepth 100000 in
theorem wordsJoin_liftedU (os : Os) (started : os.Started) (H : Type) (enc : TypeId × Value → H) (F : Stop.Interp) :
    ReturnsInHanded {} Try.checked os 4 .any ((Rows.OpenSpec.upto Rows.wordsJoinSpec).pre6 enc Try.prog Try.f4 Rows.wordsJoinUptoRow.domain false) (((Rows.OpenSpec.upto Rows.wordsJoinSpec).at F).post enc Try.prog Try.f4 false true false false) := by
  refine law_lift_sum (C := Try.checked) (tb := 4) (M := 4096) (z := 90) _ (by kernel_rfl) (by decide) (by kernel_rfl) own laid started (by kernel_rfl) Try.func4 (congrArg Array.toList Try.params4) rfl Try.underlying4 rfl (by kernel_rfl) (fun ds hd => ?_)
    (OpenSpec.witness (enc := enc) (C := Try.checked) (s := Rows.OpenSpec.upto Rows.wordsJoinSpec) (k := Rows.uptoSmall) rfl false ⟨#[], #[.slice none 0 0, .slice none 0 0, .int .i64 0], []⟩ 8 (by kernel_rfl) (by kernel_rfl) (by kernel_rfl)
      (x := ([.nil, .nil, .lit (.int .i64 0)], [], [])) (by kernel_rfl) rfl (by kernel_rfl)) ?_
  · obtain ⟨a0, a1, a2, rfl⟩ := len_three hd
    rfl
  intro W args hin hbulk
  obtain ⟨v1, v2, v3, rfl, ⟨⟨_, o1⟩, i1⟩, ⟨⟨_, o2⟩, i2⟩, ⟨⟨_, o3⟩, i3⟩⟩ := hin.three
  obtain ⟨ds, p, hA, hK⟩ := hbulk
  obtain ⟨u1, us1, d1, ds1, p1, q1, e1, rfl, rfl, ⟨f1, h1⟩, hA1⟩ := trodAll_cons hA
  obtain ⟨u2, us2, d2, ds2, p2, q2, e2, rfl, rfl, ⟨f2, h2⟩, hA2⟩ := trodAll_cons hA1
  obtain ⟨u3, us3, d3, ds3, p3, q3, e3, rfl, rfl, ⟨f3, h3⟩, hA3⟩ := trodAll_cons hA2
  subst e3 e2
  obtain ⟨rfl, rfl, rfl, rfl⟩ : v1 = u1 ∧ v2 = u2 ∧ v3 = u3 ∧ us3 = [] := by simpa using e1
  obtain ⟨a1, n1, c1, rfl⟩ := okWide_slice Try.underlying30 o1
  obtain ⟨a2, n2, c2, rfl⟩ := okWide_slice Try.underlying22 o2
  obtain ⟨x3, rfl⟩ := okWide_int Try.underlying3 o3
  obtain ⟨_, l, e1, g1, bl, wl⟩ := i2.ints Try.underlying22 Try.underlying21 (by kernel_rfl)
  obtain rfl := List.singleton_inj.1 e1
  obtain ⟨_, vs, ls, e5, g5, hb5, g6⟩ := i1.row Try.underlying30 Try.underlying22 Try.underlying21 (by kernel_rfl) (by kernel_rfl)
  obtain rfl := List.singleton_inj.1 e5
  have hs := sum_row Try.underlying30 Try.underlying22 (by kernel_rfl) h1 g5 (fun j hj => (g6 j hj).1)
  have hn := len_bulk_row Try.underlying30 h1 g5
  rw [show Try.prog.bytesOf 21 = 4 from by kernel_rfl] at bl g6
  simp only [Rows.uptoBulkAll] at hK
  exact words_join g1 (swf_i32 wl) (by omega) g5 (fun k hk => ⟨(g6 k hk).1, swf_i32 (g6 k hk).2.2, by have := (g6 k hk).2.1; omega⟩) (by omega)

theorem wordsJoin_upto : Rows.WordsJoinUptoSaid :=
  OpenClaim.holds_of_cond 4 Try.f4 rfl rfl rfl rfl rfl rfl rfl ⟨rfl, rfl, rfl, rfl, rfl⟩ rfl rfl rfl rfl rfl (by kernel_rfl) Try.func4 (by kernel_rfl)
    (of_decide_eq_true (by kernel_rfl)) (by unfold Func.isWrapper; first | (rw [if_pos (by decide +kernel)]; kernel_rfl) | (rw [if_neg (by decide +kernel)]; exact ⟨rfl, rfl⟩))
    (fun os started H enc _ F => wordsJoin_liftedU os started H enc F)
end Go.Proofs.Ytgoopiakpbcgoaa
