/- How much fuel the list of the functions is given. -/
import Derived.Test.YtcbacbfjjahcbaaGreatDoorFcB
namespace Go.Proofs.YtcbacbfjjahcbaaGreatDoor
open Go
set_option maxRecDepth 1000000
theorem fuelB : (Tryz.prog.funcs.toList.map fun g => (Tryz.prog.leadsTo g).length + 1).sum = clBFuel := by kernel_rfl
end Go.Proofs.YtcbacbfjjahcbaaGreatDoor
