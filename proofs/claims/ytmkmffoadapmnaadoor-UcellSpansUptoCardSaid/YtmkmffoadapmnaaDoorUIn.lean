/- ucell: what the rows' inputs are. -/
import Derived.Test.YtmkmffoadapmnaaDoorULaid
import Derived.Test.YtmkmffoadapmnaaDoorUtf5
set_option linter.unusedVariables false
namespace Go.Proofs.YtmkmffoadapmnaaDoor
theorem uwf_i64 {n : Int} (h : (Lit.int .i64 n).wf = true) : -9223372036854775808 ≤ n ∧ n ≤ 9223372036854775807 := by
  simp [Lit.wf, IntKind.min, IntKind.max, IntKind.signed, IntKind.bits] at h
  omega
theorem uwf_i32 {l : List Int} (h : ∀ n ∈ l, (Lit.int .i32 n).wf = true) : Runs32 l := fun n hn => by
  have h := h n hn
  simp [Lit.wf, IntKind.min, IntKind.max, IntKind.signed, IntKind.bits] at h
  omega
theorem uwf_u8 {l : List Int} (h : ∀ n ∈ l, (Lit.int .u8 n).wf = true) : Byts l := fun n hn => by
  have h := h n hn
  simp [Lit.wf, IntKind.min, IntKind.max, IntKind.signed, IntKind.bits] at h
  omega
end Go.Proofs.YtmkmffoadapmnaaDoor
