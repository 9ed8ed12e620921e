/- How much fuel the list of the functions is given. -/
import Derived.Test.YtnfldenbeokblaaGreatDoorFcL
namespace Go.Proofs.YtnfldenbeokblaaGreatDoor
open Go
set_option maxRecDepth 1000000
theorem fuelL : (Tryz.prog.funcs.toList.map fun g => (Tryz.prog.leadsTo g).length + 1).sum = clLFuel := by kernel_rfl
end Go.Proofs.YtnfldenbeokblaaGreatDoor
