/- The kernel runs calls: part 13. -/
import Derived.Test.YtcbacbfjjahcbaaGreatDoorPkB
import Derived.KernelRfl
namespace Go.Proofs.YtcbacbfjjahcbaaGreatDoor.Ev
open Go Go.Proofs
set_option maxRecDepth 1000000
set_option linter.unusedVariables false
set_option linter.unusedSimpArgs false
theorem cr35 : runCov cp35.v cp35.hout (call PP3 200 (.func 133) cp35.args cp35.hin) = true := by kernel_rfl
theorem cr37 : runCov cp37.v cp37.hout (call PP3 200 (.func 133) cp37.args cp37.hin) = true := by kernel_rfl
end Go.Proofs.YtcbacbfjjahcbaaGreatDoor.Ev
