/- The list of the functions that the law comes to. -/
import Derived.Test.YtcbacbfjjahcbaaGreatDoorFcC
namespace Go.Proofs.YtcbacbfjjahcbaaGreatDoor
open Go
set_option maxRecDepth 1000000
theorem cloViaC : Tryz.prog.closureVia (1 + clCFuel) [3] [] = clCL := by kernel_rfl
end Go.Proofs.YtcbacbfjjahcbaaGreatDoor
