/- The kernel runs calls: part 10. -/
import Derived.Test.YtcbacbfjjahcbaaGreatDoorPkB
import Derived.KernelRfl
namespace Go.Proofs.YtcbacbfjjahcbaaGreatDoor.Ev
open Go Go.Proofs
set_option maxRecDepth 1000000
set_option linter.unusedVariables false
set_option linter.unusedSimpArgs false
theorem cr27 : runCov cp27.v cp27.hout (call PP3 200 (.func 133) cp27.args cp27.hin) = true := by kernel_rfl
theorem cr29 : runCov cp29.v cp29.hout (call PP3 200 (.func 133) cp29.args cp29.hin) = true := by kernel_rfl
end Go.Proofs.YtcbacbfjjahcbaaGreatDoor.Ev
