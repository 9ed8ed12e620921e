/- The kernel runs calls: part 9. -/
import Derived.Test.YtcbacbfjjahcbaaGreatDoorPkB
import Derived.KernelRfl
namespace Go.Proofs.YtcbacbfjjahcbaaGreatDoor.Ev
open Go Go.Proofs
set_option maxRecDepth 1000000
set_option linter.unusedVariables false
set_option linter.unusedSimpArgs false
theorem cr25 : runCov cp25.v cp25.hout (call PP3 200 (.func 133) cp25.args cp25.hin) = true := by kernel_rfl
end Go.Proofs.YtcbacbfjjahcbaaGreatDoor.Ev
