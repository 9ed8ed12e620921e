/- The kernel runs calls: part 1. -/
import Derived.Test.YtcbacbfjjahcbaaGreatDoorPkC
import Derived.KernelRfl
namespace Go.Proofs.YtcbacbfjjahcbaaGreatDoor.Ev
open Go Go.Proofs
set_option maxRecDepth 1000000
set_option linter.unusedVariables false
set_option linter.unusedSimpArgs false
theorem cr72 : runCov cp72.v cp72.hout (call PL11 200 (.func 133) cp72.args cp72.hin) = true := by kernel_rfl
theorem cr99 : runCov cp99.v cp99.hout (call PL16 200 (.func 133) cp99.args cp99.hin) = true := by kernel_rfl
theorem cr86 : runCov cp86.v cp86.hout (call PP4 200 (.func 18) cp86.args cp86.hin) = true := by kernel_rfl
end Go.Proofs.YtcbacbfjjahcbaaGreatDoor.Ev
