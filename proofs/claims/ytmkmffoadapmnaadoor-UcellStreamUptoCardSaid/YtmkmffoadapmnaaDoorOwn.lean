/- The program's own knob, its types laid. -/
import Derived.Test.YtmkmffoadapmnaaDoorRows
import Derived.Test.YtmkmffoadapmnaaDoorLift
namespace Go.Proofs.YtmkmffoadapmnaaDoor
theorem own : ownKnob Tryd.prog.godebug = none := by kernel_rfl
theorem laid : laidOutB Tryd.prog = true := by kernel_rfl
end Go.Proofs.YtmkmffoadapmnaaDoor
