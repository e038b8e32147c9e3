/- The program's own knob, its types laid. -/
import Derived.Test.YtkjkfbkapingbaaRows
import Derived.Test.YtkjkfbkapingbaaLift
namespace Go.Proofs.Ytkjkfbkapingbaa
theorem own : ownKnob Try.prog.godebug = none := by kernel_rfl
theorem laid : laidOutB Try.prog = true := by kernel_rfl
end Go.Proofs.Ytkjkfbkapingbaa
