/- How much fuel the list of the functions is given. -/
import Derived.Test.YtcbacbfjjahcbaaGreatDoorFcC
namespace Go.Proofs.YtcbacbfjjahcbaaGreatDoor
open Go
set_option maxRecDepth 1000000
theorem fuelC : (Tryz.prog.funcs.toList.map fun g => (Tryz.prog.leadsTo g).length + 1).sum = clCFuel := by kernel_rfl
end Go.Proofs.YtcbacbfjjahcbaaGreatDoor
