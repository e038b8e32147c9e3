/- The program's own knob, its types laid. -/
import Derived.Test.YtlldaaamdchkdaaDoorRows
import Derived.Test.YtlldaaamdchkdaaDoorLift
namespace Go.Proofs.YtlldaaamdchkdaaDoor
theorem own : ownKnob Tryd.prog.godebug = none := by kernel_rfl
theorem laid : laidOutB Tryd.prog = true := by kernel_rfl
end Go.Proofs.YtlldaaamdchkdaaDoor
