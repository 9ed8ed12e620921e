/- The kernel runs calls: part 7. -/
import Derived.Test.YtjhionjmlcccjaaGreatDoorPkF
import Derived.KernelRfl
namespace Go.Proofs.YtjhionjmlcccjaaGreatDoor.Ev
open Go Go.Proofs
set_option maxRecDepth 1000000
set_option linter.unusedVariables false
set_option linter.unusedSimpArgs false
theorem cr70 : runCov cp70.v cp70.hout (call PP4 200 (.func 13) cp70.args cp70.hin) = true := by kernel_rfl
theorem cr71 : runCov cp71.v cp71.hout (call PP4 200 (.func 13) cp71.args cp71.hin) = true := by kernel_rfl
theorem cr72 : runCov cp72.v cp72.hout (call PP4 200 (.func 13) cp72.args cp72.hin) = true := by kernel_rfl
theorem cr73 : runCov cp73.v cp73.hout (call PP4 200 (.func 13) cp73.args cp73.hin) = true := by kernel_rfl
theorem cr74 : runCov cp74.v cp74.hout (call PP4 200 (.func 13) cp74.args cp74.hin) = true := by kernel_rfl
theorem cr75 : runCov cp75.v cp75.hout (call PP4 200 (.func 13) cp75.args cp75.hin) = true := by kernel_rfl
theorem cr76 : runCov cp76.v cp76.hout (call PP4 200 (.func 13) cp76.args cp76.hin) = true := by kernel_rfl
theorem cr77 : runCov cp77.v cp77.hout (call PP4 200 (.func 13) cp77.args cp77.hin) = true := by kernel_rfl
theorem cr78 : runCov cp78.v cp78.hout (call PP4 200 (.func 13) cp78.args cp78.hin) = true := by kernel_rfl
theorem cr79 : runCov cp79.v cp79.hout (call PP4 200 (.func 13) cp79.args cp79.hin) = true := by kernel_rfl
end Go.Proofs.YtjhionjmlcccjaaGreatDoor.Ev
