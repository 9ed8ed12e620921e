/- The kernel runs calls: part 0. -/
import Derived.Test.YtjhionjmlcccjaaGreatDoorPkR
import Derived.KernelRfl
namespace Go.Proofs.YtjhionjmlcccjaaGreatDoor.Ev
open Go Go.Proofs
set_option maxRecDepth 1000000
set_option linter.unusedVariables false
set_option linter.unusedSimpArgs false
theorem cr0 : runCov cp0.v cp0.hout (call PP4 200 (.func 13) cp0.args cp0.hin) = true := by kernel_rfl
theorem cr1 : runCov cp1.v cp1.hout (call PP4 200 (.func 13) cp1.args cp1.hin) = true := by kernel_rfl
theorem cr2 : runCov cp2.v cp2.hout (call PP4 200 (.func 13) cp2.args cp2.hin) = true := by kernel_rfl
end Go.Proofs.YtjhionjmlcccjaaGreatDoor.Ev
