/- The kernel runs calls: part 12. -/
import Derived.Test.YtcbacbfjjahcbaaGreatDoorPkC
import Derived.KernelRfl
namespace Go.Proofs.YtcbacbfjjahcbaaGreatDoor.Ev
open Go Go.Proofs
set_option maxRecDepth 1000000
set_option linter.unusedVariables false
set_option linter.unusedSimpArgs false
theorem cr20 : runCov cp20.v cp20.hout (call PP4 200 (.func 18) cp20.args cp20.hin) = true := by kernel_rfl
theorem cr2 : runCov cp2.v cp2.hout (call PP4 200 (.func 18) cp2.args cp2.hin) = true := by kernel_rfl
theorem cr29 : runCov cp29.v cp29.hout (call PP4 200 (.func 18) cp29.args cp29.hin) = true := by kernel_rfl
theorem cr59 : runCov cp59.v cp59.hout (call PP4 200 (.func 18) cp59.args cp59.hin) = true := by kernel_rfl
theorem cr51 : runCov cp51.v cp51.hout (call PP4 200 (.func 18) cp51.args cp51.hin) = true := by kernel_rfl
theorem cr84 : runCov cp84.v cp84.hout (call PP4 200 (.func 18) cp84.args cp84.hin) = true := by kernel_rfl
theorem cr30 : runCov cp30.v cp30.hout (call PP4 200 (.func 18) cp30.args cp30.hin) = true := by kernel_rfl
theorem cr4 : runCov cp4.v cp4.hout (call PP4 200 (.func 18) cp4.args cp4.hin) = true := by kernel_rfl
theorem cr125 : runCov cp125.v cp125.hout (call PP4 200 (.func 18) cp125.args cp125.hin) = true := by kernel_rfl
end Go.Proofs.YtcbacbfjjahcbaaGreatDoor.Ev
