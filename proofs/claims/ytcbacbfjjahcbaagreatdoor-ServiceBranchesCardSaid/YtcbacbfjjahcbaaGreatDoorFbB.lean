/- The list of the functions that the law comes to. -/
import Derived.Test.YtcbacbfjjahcbaaGreatDoorFcB
namespace Go.Proofs.YtcbacbfjjahcbaaGreatDoor
open Go
set_option maxRecDepth 1000000
theorem cloViaB : Tryz.prog.closureVia (1 + clBFuel) [4] [] = clBL := by kernel_rfl
end Go.Proofs.YtcbacbfjjahcbaaGreatDoor
