/- The kernel runs calls: part 11. -/
import Derived.Test.YtcbacbfjjahcbaaGreatDoorPkB
import Derived.KernelRfl
namespace Go.Proofs.YtcbacbfjjahcbaaGreatDoor.Ev
open Go Go.Proofs
set_option maxRecDepth 1000000
set_option linter.unusedVariables false
set_option linter.unusedSimpArgs false
theorem cr31 : runCov cp31.v cp31.hout (call PP3 200 (.func 133) cp31.args cp31.hin) = true := by kernel_rfl
end Go.Proofs.YtcbacbfjjahcbaaGreatDoor.Ev
