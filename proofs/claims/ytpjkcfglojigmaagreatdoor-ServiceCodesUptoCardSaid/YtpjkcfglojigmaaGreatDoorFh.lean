/- What the model hears of the program. -/
import Derived.Test.YtpjkcfglojigmaaGreatDoorRows
import Derived.KernelRfl
namespace Go.Proofs.YtpjkcfglojigmaaGreatDoor
open Go
set_option maxRecDepth 1000000
theorem stopsH : Tryz.prog.stopsHeard = true := by kernel_rfl
theorem mayE : Tryz.prog.mayEnter = true := by kernel_rfl
end Go.Proofs.YtpjkcfglojigmaaGreatDoor
