/- The kernel runs calls: part 13. -/
import Derived.Test.YtjhionjmlcccjaaGreatDoorPkF
import Derived.KernelRfl
namespace Go.Proofs.YtjhionjmlcccjaaGreatDoor.Ev
open Go Go.Proofs
set_option maxRecDepth 1000000
set_option linter.unusedVariables false
set_option linter.unusedSimpArgs false
theorem cr130 : runCov cp130.v cp130.hout (call PP4 200 (.func 13) cp130.args cp130.hin) = true := by kernel_rfl
theorem cr131 : runCov cp131.v cp131.hout (call PP4 200 (.func 13) cp131.args cp131.hin) = true := by kernel_rfl
theorem cr132 : runCov cp132.v cp132.hout (call PP4 200 (.func 13) cp132.args cp132.hin) = true := by kernel_rfl
theorem cr133 : runCov cp133.v cp133.hout (call PP4 200 (.func 13) cp133.args cp133.hin) = true := by kernel_rfl
theorem cr134 : runCov cp134.v cp134.hout (call PP4 200 (.func 13) cp134.args cp134.hin) = true := by kernel_rfl
theorem cr135 : runCov cp135.v cp135.hout (call PP4 200 (.func 13) cp135.args cp135.hin) = true := by kernel_rfl
theorem cr136 : runCov cp136.v cp136.hout (call PP4 200 (.func 13) cp136.args cp136.hin) = true := by kernel_rfl
end Go.Proofs.YtjhionjmlcccjaaGreatDoor.Ev
