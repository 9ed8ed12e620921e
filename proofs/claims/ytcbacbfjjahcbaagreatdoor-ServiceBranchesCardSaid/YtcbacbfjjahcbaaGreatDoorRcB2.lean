/- The kernel runs calls: part 2. -/
import Derived.Test.YtcbacbfjjahcbaaGreatDoorPkB
import Derived.KernelRfl
namespace Go.Proofs.YtcbacbfjjahcbaaGreatDoor.Ev
open Go Go.Proofs
set_option maxRecDepth 1000000
set_option linter.unusedVariables false
set_option linter.unusedSimpArgs false
theorem cr14 : runCov cp14.v cp14.hout (call PP4 200 (.func 18) cp14.args cp14.hin) = true := by kernel_rfl
theorem cr16 : runCov cp16.v cp16.hout (call PP4 200 (.func 18) cp16.args cp16.hin) = true := by kernel_rfl
theorem cr18 : runCov cp18.v cp18.hout (call PP4 200 (.func 18) cp18.args cp18.hin) = true := by kernel_rfl
theorem cr20 : runCov cp20.v cp20.hout (call PP4 200 (.func 18) cp20.args cp20.hin) = true := by kernel_rfl
theorem cr22 : runCov cp22.v cp22.hout (call PP4 200 (.func 18) cp22.args cp22.hin) = true := by kernel_rfl
theorem cr24 : runCov cp24.v cp24.hout (call PP4 200 (.func 18) cp24.args cp24.hin) = true := by kernel_rfl
theorem cr26 : runCov cp26.v cp26.hout (call PP4 200 (.func 18) cp26.args cp26.hin) = true := by kernel_rfl
theorem cr28 : runCov cp28.v cp28.hout (call PP4 200 (.func 18) cp28.args cp28.hin) = true := by kernel_rfl
end Go.Proofs.YtcbacbfjjahcbaaGreatDoor.Ev
