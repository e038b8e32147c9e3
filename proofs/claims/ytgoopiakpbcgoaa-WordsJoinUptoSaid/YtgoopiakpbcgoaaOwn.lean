/- The program's own knob, its types laid. -/
import Derived.Test.YtgoopiakpbcgoaaRows
import Derived.Test.YtgoopiakpbcgoaaLift
namespace Go.Proofs.Ytgoopiakpbcgoaa
theorem own : ownKnob Try.prog.godebug = none := by kernel_rfl
theorem laid : laidOutB Try.prog = true := by kernel_rfl
end Go.Proofs.Ytgoopiakpbcgoaa
