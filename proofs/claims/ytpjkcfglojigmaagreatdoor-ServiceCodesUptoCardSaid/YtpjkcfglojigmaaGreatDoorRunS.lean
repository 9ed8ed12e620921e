/- The kernel runs the law that every other law asks first. -/
import Derived.Test.YtpjkcfglojigmaaGreatDoorPg
import Derived.KernelRfl
namespace Go.Proofs.YtpjkcfglojigmaaGreatDoor.Ev
open Go Go.Proofs
set_option maxRecDepth 1000000
set_option linter.unusedVariables false
set_option linter.unusedSimpArgs false
theorem runS : runIs (call PP2 200 (.func 4) [] h0) (.bool true) = true := by kernel_rfl
end Go.Proofs.YtpjkcfglojigmaaGreatDoor.Ev
