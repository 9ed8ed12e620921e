/- The kernel runs calls: part 11. -/
import Derived.Test.YtjhionjmlcccjaaGreatDoorPkF
import Derived.KernelRfl
namespace Go.Proofs.YtjhionjmlcccjaaGreatDoor.Ev
open Go Go.Proofs
set_option maxRecDepth 1000000
set_option linter.unusedVariables false
set_option linter.unusedSimpArgs false
theorem cr110 : runCov cp110.v cp110.hout (call PP4 200 (.func 13) cp110.args cp110.hin) = true := by kernel_rfl
theorem cr111 : runCov cp111.v cp111.hout (call PP4 200 (.func 13) cp111.args cp111.hin) = true := by kernel_rfl
theorem cr112 : runCov cp112.v cp112.hout (call PP4 200 (.func 13) cp112.args cp112.hin) = true := by kernel_rfl
theorem cr113 : runCov cp113.v cp113.hout (call PP4 200 (.func 13) cp113.args cp113.hin) = true := by kernel_rfl
theorem cr114 : runCov cp114.v cp114.hout (call PP4 200 (.func 13) cp114.args cp114.hin) = true := by kernel_rfl
theorem cr115 : runCov cp115.v cp115.hout (call PP4 200 (.func 13) cp115.args cp115.hin) = true := by kernel_rfl
theorem cr116 : runCov cp116.v cp116.hout (call PP4 200 (.func 13) cp116.args cp116.hin) = true := by kernel_rfl
theorem cr117 : runCov cp117.v cp117.hout (call PP4 200 (.func 13) cp117.args cp117.hin) = true := by kernel_rfl
theorem cr118 : runCov cp118.v cp118.hout (call PP4 200 (.func 13) cp118.args cp118.hin) = true := by kernel_rfl
theorem cr119 : runCov cp119.v cp119.hout (call PP4 200 (.func 13) cp119.args cp119.hin) = true := by kernel_rfl
end Go.Proofs.YtjhionjmlcccjaaGreatDoor.Ev
