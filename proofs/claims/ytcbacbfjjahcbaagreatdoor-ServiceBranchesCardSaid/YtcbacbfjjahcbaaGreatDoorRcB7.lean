/- The kernel runs calls: part 7. -/
import Derived.Test.YtcbacbfjjahcbaaGreatDoorPkB
import Derived.KernelRfl
namespace Go.Proofs.YtcbacbfjjahcbaaGreatDoor.Ev
open Go Go.Proofs
set_option maxRecDepth 1000000
set_option linter.unusedVariables false
set_option linter.unusedSimpArgs false
theorem cr19 : runCov cp19.v cp19.hout (call PP3 200 (.func 133) cp19.args cp19.hin) = true := by kernel_rfl
theorem cr21 : runCov cp21.v cp21.hout (call PP3 200 (.func 133) cp21.args cp21.hin) = true := by kernel_rfl
end Go.Proofs.YtcbacbfjjahcbaaGreatDoor.Ev
