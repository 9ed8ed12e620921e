/- How much fuel the list of the functions is given. -/
import Derived.Test.YtpjkcfglojigmaaGreatDoorFcS
namespace Go.Proofs.YtpjkcfglojigmaaGreatDoor
open Go
set_option maxRecDepth 1000000
theorem fuelS : (Tryz.prog.funcs.toList.map fun g => (Tryz.prog.leadsTo g).length + 1).sum = clSFuel := by kernel_rfl
end Go.Proofs.YtpjkcfglojigmaaGreatDoor
