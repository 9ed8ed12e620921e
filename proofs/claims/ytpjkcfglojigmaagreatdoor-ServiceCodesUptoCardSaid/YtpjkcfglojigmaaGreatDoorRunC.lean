/- The kernel runs the classes of bytes. -/
import Derived.Test.YtpjkcfglojigmaaGreatDoorPg
import Derived.KernelRfl
namespace Go.Proofs.YtpjkcfglojigmaaGreatDoor.Ev
open Go Go.Proofs
set_option maxRecDepth 1000000
set_option linter.unusedVariables false
set_option linter.unusedSimpArgs false
theorem runC : runIs (call PP0 200 (.func 230) [] h0) (.agg clsL) = true := by kernel_rfl
end Go.Proofs.YtpjkcfglojigmaaGreatDoor.Ev
