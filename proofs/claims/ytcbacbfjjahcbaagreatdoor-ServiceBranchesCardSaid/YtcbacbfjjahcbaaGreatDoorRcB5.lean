/- The kernel runs calls: part 5. -/
import Derived.Test.YtcbacbfjjahcbaaGreatDoorPkB
import Derived.KernelRfl
namespace Go.Proofs.YtcbacbfjjahcbaaGreatDoor.Ev
open Go Go.Proofs
set_option maxRecDepth 1000000
set_option linter.unusedVariables false
set_option linter.unusedSimpArgs false
theorem cr7 : runCov cp7.v cp7.hout (call PP3 200 (.func 133) cp7.args cp7.hin) = true := by kernel_rfl
theorem cr10 : runCov cp10.v cp10.hout (call PP3 200 (.func 133) cp10.args cp10.hin) = true := by kernel_rfl
end Go.Proofs.YtcbacbfjjahcbaaGreatDoor.Ev
