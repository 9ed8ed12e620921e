/- The kernel runs calls: part 0. -/
import Derived.Test.YtcbacbfjjahcbaaGreatDoorPkC
import Derived.KernelRfl
namespace Go.Proofs.YtcbacbfjjahcbaaGreatDoor.Ev
open Go Go.Proofs
set_option maxRecDepth 1000000
set_option linter.unusedVariables false
set_option linter.unusedSimpArgs false
theorem cr102 : runCov cp102.v cp102.hout (call PL18 200 (.func 133) cp102.args cp102.hin) = true := by kernel_rfl
theorem cr74 : runCov cp74.v cp74.hout (call PL12 200 (.func 133) cp74.args cp74.hin) = true := by kernel_rfl
theorem cr81 : runCov cp81.v cp81.hout (call PP4 200 (.func 18) cp81.args cp81.hin) = true := by kernel_rfl
end Go.Proofs.YtcbacbfjjahcbaaGreatDoor.Ev
