/- How much fuel the list of the functions is given. -/
import Derived.Test.YtjhionjmlcccjaaGreatDoorFcF
namespace Go.Proofs.YtjhionjmlcccjaaGreatDoor
open Go
set_option maxRecDepth 1000000
theorem fuelF : (Tryz.prog.funcs.toList.map fun g => (Tryz.prog.leadsTo g).length + 1).sum = clFFuel := by kernel_rfl
end Go.Proofs.YtjhionjmlcccjaaGreatDoor
