/- The kernel runs calls: part 11. -/
import Derived.Test.YtcbacbfjjahcbaaGreatDoorPkC
import Derived.KernelRfl
namespace Go.Proofs.YtcbacbfjjahcbaaGreatDoor.Ev
open Go Go.Proofs
set_option maxRecDepth 1000000
set_option linter.unusedVariables false
set_option linter.unusedSimpArgs false
theorem cfr15_0 : runsPT PP3 198 pt15_0 = true := by kernel_rfl
theorem cr56 : runCov cp56.v cp56.hout (call PP4 200 (.func 18) cp56.args cp56.hin) = true := by kernel_rfl
theorem cr70 : runCov cp70.v cp70.hout (call PP4 200 (.func 18) cp70.args cp70.hin) = true := by kernel_rfl
theorem cr26 : runCov cp26.v cp26.hout (call PP4 200 (.func 18) cp26.args cp26.hin) = true := by kernel_rfl
theorem cr16 : runCov cp16.v cp16.hout (call PP4 200 (.func 18) cp16.args cp16.hin) = true := by kernel_rfl
theorem cr50 : runCov cp50.v cp50.hout (call PP4 200 (.func 18) cp50.args cp50.hin) = true := by kernel_rfl
end Go.Proofs.YtcbacbfjjahcbaaGreatDoor.Ev
