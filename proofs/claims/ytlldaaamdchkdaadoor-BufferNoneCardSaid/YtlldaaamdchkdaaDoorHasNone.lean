/- BufferNone: the row, the card. -/
import Derived.Test.YtlldaaamdchkdaaDoorCards
import Derived.Test.YtlldaaamdchkdaaDoorLaid
import Derived.Test.YtlldaaamdchkdaaDoorOpIn
import Derived.Test.YtlldaaamdchkdaaDoorLawNone
import Derived.SevenTiedAt
set_option linter.unusedVariables false
namespace Go.Proofs.YtlldaaamdchkdaaDoor
open Go.ChangeShapes Go.WideShapes Go.ChangeAt Go.RowKit

set_option maxRecDepth 100000 in
theorem bufferNone_lifted (os : Os) (started : os.Started) (H : Type) (enc : TypeId × Value → H) :
    ReturnsInHanded {} Tryd.checked os 10 .any (fun w args => (Rows.bufferNoneSpec.pre enc Tryd.prog Tryd.f10 Rows.bufferNoneRow.domain false w args ∧ laidMetH Tryd.prog laid2 w) ∧ sizedMet enc Tryd.prog Tryd.f10 (OpenSpec.ofChange Rows.bufferNoneSpec) false w args) (Rows.bufferNoneSpec.post enc Tryd.prog Tryd.f10 false true false false) := by
  refine law_lift_laid (C := Tryd.checked) (tb := 4) _ own laid started (by kernel_rfl) Tryd.func10 (congrArg Array.toList Tryd.params10) rfl Tryd.underlying4 rfl (by kernel_rfl) (fun ds hd => ?_)
    (ChangeSpec.witness_shaped (enc := enc) (C := Tryd.checked) (os := os) (X := fun w _ => laidMetH Tryd.prog laid2 w) false (World.doorLaid Tryd.prog 400 os) #[.agg #[.int .i64 0, .int .i64 0, .int .i64 0, .slice none 0 0, .int .i64 0, .slice none 0 0, .slice none 0 0]] 8 rfl (World.shaped_of_RefB (by kernel_rfl) (by kernel_rfl)) (by kernel_rfl) (by kernel_rfl) (by kernel_rfl) (door_met os _)) ?_
  · obtain ⟨a0, rfl⟩ := len_one hd
    rfl
  intro W args hL hin
  have hT := tabs_of hL
  obtain ⟨v1, rfl, ⟨_, o1⟩, i1⟩ := hin.one
  obtain ⟨cs, rfl, -⟩ := okWide_struct Tryd.underlying26 o1
  obtain ⟨k, f, t, tx, text, a, d, i, dl, il, e2, -, -, -⟩ := op_in i1
  obtain rfl : cs = opCells k f t tx a d i := Array.ext' e2
  exact buffer_none hT

theorem bufferNone_proved : Rows.BufferNoneSaid :=
  OpenClaim.holds_of_wide 10 Tryd.f10 rfl rfl rfl rfl rfl rfl rfl ⟨rfl, rfl, rfl, rfl, rfl⟩ rfl rfl rfl rfl rfl (by kernel_rfl) Tryd.func10 (by kernel_rfl)
    (of_decide_eq_true (by kernel_rfl)) (by unfold Func.isWrapper; first | (rw [if_pos (by decide +kernel)]; kernel_rfl) | (rw [if_neg (by decide +kernel)]; exact ⟨rfl, rfl⟩))
    (fun os started H enc _ => bufferNone_lifted os started H enc)
theorem bufferNone_card : Rows.BufferNoneCardSaid :=
  Claim7.holds_tied_plain_at .later [] [.widerDeep, .widerDeep] true (true, "13e2a9f3bb468c236191b80a51f7b7f9625372630bd7a8a0b12306cf98716420") false
    bufferNone_proved (fun _ h => by cases h) (by kernel_rfl) (fun _ h => by cases h) bufferNone_row_tie rfl ⟨rfl, rfl⟩ (by kernel_rfl) rfl
    (fun f fn hf hfn => by
      obtain rfl : f = 10 := Option.some.inj ((show Tryd.prog.funcNamed "lanyard/lanyardlaw07.BufferNone" = some 10 by kernel_rfl).symm.trans hf) |>.symm
      obtain rfl : fn = Tryd.f10 := (Option.some.inj (Tryd.func10.symm.trans hfn)).symm
      exact ⟨by kernel_rfl, fun j t ht => by
        rw [Tryd.params10] at ht
        have hm : t ∈ [26] := by simpa using Array.mem_of_getElem? ht
        have hall : ([26].all fun u => !Tryd.prog.wantsStandIn u) = true := by kernel_rfl
        exact (show Tryd.prog.wantsStandIn t = false by simpa using List.all_eq_true.1 hall t hm)⟩)
    (by kernel_rfl)
end Go.Proofs.YtlldaaamdchkdaaDoor
