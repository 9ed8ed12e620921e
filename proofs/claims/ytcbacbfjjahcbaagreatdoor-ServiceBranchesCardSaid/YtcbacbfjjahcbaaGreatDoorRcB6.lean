/- The kernel runs calls: part 6. -/
import Derived.Test.YtcbacbfjjahcbaaGreatDoorPkB
import Derived.KernelRfl
namespace Go.Proofs.YtcbacbfjjahcbaaGreatDoor.Ev
open Go Go.Proofs
set_option maxRecDepth 1000000
set_option linter.unusedVariables false
set_option linter.unusedSimpArgs false
theorem cr15 : runCov cp15.v cp15.hout (call PP3 200 (.func 133) cp15.args cp15.hin) = true := by kernel_rfl
theorem cr17 : runCov cp17.v cp17.hout (call PP3 200 (.func 133) cp17.args cp17.hin) = true := by kernel_rfl
end Go.Proofs.YtcbacbfjjahcbaaGreatDoor.Ev
