/- shwords: what the rows' inputs are. -/
import Derived.Test.YtgoopiakpbcgoaaUpto
import Derived.Test.YtgoopiakpbcgoaaShW2
set_option linter.unusedVariables false
namespace Go.Proofs.Ytgoopiakpbcgoaa
theorem swf_i32 {l : List Int} (h : ∀ n ∈ l, (Lit.int .i32 n).wf = true) : Rn32 l := fun n hn => by
  have h := h n hn
  simp [Lit.wf, IntKind.min, IntKind.max, IntKind.signed, IntKind.bits] at h
  omega
end Go.Proofs.Ytgoopiakpbcgoaa
