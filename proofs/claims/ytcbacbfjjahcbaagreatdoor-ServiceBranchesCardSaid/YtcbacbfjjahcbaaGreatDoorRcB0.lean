/- The kernel runs calls: part 0. -/
import Derived.Test.YtcbacbfjjahcbaaGreatDoorPkB
import Derived.KernelRfl
namespace Go.Proofs.YtcbacbfjjahcbaaGreatDoor.Ev
open Go Go.Proofs
set_option maxRecDepth 1000000
set_option linter.unusedVariables false
set_option linter.unusedSimpArgs false
theorem cr0 : runCov cp0.v cp0.hout (call PP4 200 (.func 18) cp0.args cp0.hin) = true := by kernel_rfl
theorem cr2 : runCov cp2.v cp2.hout (call PP4 200 (.func 18) cp2.args cp2.hin) = true := by kernel_rfl
theorem cr3 : runCov cp3.v cp3.hout (call PP4 200 (.func 18) cp3.args cp3.hin) = true := by kernel_rfl
theorem cr5 : runCov cp5.v cp5.hout (call PP4 200 (.func 18) cp5.args cp5.hin) = true := by kernel_rfl
theorem cr6 : runCov cp6.v cp6.hout (call PP4 200 (.func 18) cp6.args cp6.hin) = true := by kernel_rfl
end Go.Proofs.YtcbacbfjjahcbaaGreatDoor.Ev
