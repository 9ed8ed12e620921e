/- The kernel runs calls: part 3. -/
import Derived.Test.YtcbacbfjjahcbaaGreatDoorPkB
import Derived.KernelRfl
namespace Go.Proofs.YtcbacbfjjahcbaaGreatDoor.Ev
open Go Go.Proofs
set_option maxRecDepth 1000000
set_option linter.unusedVariables false
set_option linter.unusedSimpArgs false
theorem cr30 : runCov cp30.v cp30.hout (call PP4 200 (.func 18) cp30.args cp30.hin) = true := by kernel_rfl
theorem cr32 : runCov cp32.v cp32.hout (call PP4 200 (.func 18) cp32.args cp32.hin) = true := by kernel_rfl
theorem cr34 : runCov cp34.v cp34.hout (call PP4 200 (.func 18) cp34.args cp34.hin) = true := by kernel_rfl
theorem cr36 : runCov cp36.v cp36.hout (call PP4 200 (.func 18) cp36.args cp36.hin) = true := by kernel_rfl
theorem cr38 : runCov cp38.v cp38.hout (call PP4 200 (.func 18) cp38.args cp38.hin) = true := by kernel_rfl
end Go.Proofs.YtcbacbfjjahcbaaGreatDoor.Ev
