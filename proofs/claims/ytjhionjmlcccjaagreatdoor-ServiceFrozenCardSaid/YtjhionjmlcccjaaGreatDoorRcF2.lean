/- The kernel runs calls: part 2. -/
import Derived.Test.YtjhionjmlcccjaaGreatDoorPkF
import Derived.KernelRfl
namespace Go.Proofs.YtjhionjmlcccjaaGreatDoor.Ev
open Go Go.Proofs
set_option maxRecDepth 1000000
set_option linter.unusedVariables false
set_option linter.unusedSimpArgs false
theorem cr20 : runCov cp20.v cp20.hout (call PP4 200 (.func 13) cp20.args cp20.hin) = true := by kernel_rfl
theorem cr21 : runCov cp21.v cp21.hout (call PP4 200 (.func 13) cp21.args cp21.hin) = true := by kernel_rfl
theorem cr22 : runCov cp22.v cp22.hout (call PP4 200 (.func 13) cp22.args cp22.hin) = true := by kernel_rfl
theorem cr23 : runCov cp23.v cp23.hout (call PP4 200 (.func 13) cp23.args cp23.hin) = true := by kernel_rfl
theorem cr24 : runCov cp24.v cp24.hout (call PP4 200 (.func 13) cp24.args cp24.hin) = true := by kernel_rfl
theorem cr25 : runCov cp25.v cp25.hout (call PP4 200 (.func 13) cp25.args cp25.hin) = true := by kernel_rfl
theorem cr26 : runCov cp26.v cp26.hout (call PP4 200 (.func 13) cp26.args cp26.hin) = true := by kernel_rfl
theorem cr27 : runCov cp27.v cp27.hout (call PP4 200 (.func 13) cp27.args cp27.hin) = true := by kernel_rfl
theorem cr28 : runCov cp28.v cp28.hout (call PP4 200 (.func 13) cp28.args cp28.hin) = true := by kernel_rfl
theorem cr29 : runCov cp29.v cp29.hout (call PP4 200 (.func 13) cp29.args cp29.hin) = true := by kernel_rfl
end Go.Proofs.YtjhionjmlcccjaaGreatDoor.Ev
