/- The list of the functions that the law comes to. -/
import Derived.Test.YtpjkcfglojigmaaGreatDoorFcS
namespace Go.Proofs.YtpjkcfglojigmaaGreatDoor
open Go
set_option maxRecDepth 1000000
theorem cloViaS : Tryz.prog.closureVia (1 + clSFuel) [3] [] = clSL := by kernel_rfl
end Go.Proofs.YtpjkcfglojigmaaGreatDoor
