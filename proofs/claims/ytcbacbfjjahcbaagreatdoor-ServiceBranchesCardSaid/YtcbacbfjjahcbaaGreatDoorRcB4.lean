/- The kernel runs calls: part 4. -/
import Derived.Test.YtcbacbfjjahcbaaGreatDoorPkB
import Derived.KernelRfl
namespace Go.Proofs.YtcbacbfjjahcbaaGreatDoor.Ev
open Go Go.Proofs
set_option maxRecDepth 1000000
set_option linter.unusedVariables false
set_option linter.unusedSimpArgs false
theorem cr1 : runCov cp1.v cp1.hout (call PP3 200 (.func 133) cp1.args cp1.hin) = true := by kernel_rfl
theorem cr4 : runCov cp4.v cp4.hout (call PP3 200 (.func 133) cp4.args cp4.hin) = true := by kernel_rfl
end Go.Proofs.YtcbacbfjjahcbaaGreatDoor.Ev
