/- The kernel runs calls: part 9. -/
import Derived.Test.YtcbacbfjjahcbaaGreatDoorPkC
import Derived.KernelRfl
namespace Go.Proofs.YtcbacbfjjahcbaaGreatDoor.Ev
open Go Go.Proofs
set_option maxRecDepth 1000000
set_option linter.unusedVariables false
set_option linter.unusedSimpArgs false
theorem cr100 : runCov cp100.v cp100.hout (call PP4 200 (.func 18) cp100.args cp100.hin) = true := by kernel_rfl
theorem cr73 : runCov cp73.v cp73.hout (call PP4 200 (.func 18) cp73.args cp73.hin) = true := by kernel_rfl
theorem cr82 : runCov cp82.v cp82.hout (call PP4 200 (.func 18) cp82.args cp82.hin) = true := by kernel_rfl
theorem cfr3_0 : runsPT PP3 198 pt3_0 = true := by kernel_rfl
theorem cr21 : runCov cp21.v cp21.hout (call PP4 200 (.func 18) cp21.args cp21.hin) = true := by kernel_rfl
theorem cr95 : runCov cp95.v cp95.hout (call PP4 200 (.func 18) cp95.args cp95.hin) = true := by kernel_rfl
end Go.Proofs.YtcbacbfjjahcbaaGreatDoor.Ev
