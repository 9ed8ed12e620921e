/- The kernel runs calls: part 5. -/
import Derived.Test.YtjhionjmlcccjaaGreatDoorPkR
import Derived.KernelRfl
namespace Go.Proofs.YtjhionjmlcccjaaGreatDoor.Ev
open Go Go.Proofs
set_option maxRecDepth 1000000
set_option linter.unusedVariables false
set_option linter.unusedSimpArgs false
theorem cr15 : runCov cp15.v cp15.hout (call PP4 200 (.func 13) cp15.args cp15.hin) = true := by kernel_rfl
theorem cr16 : runCov cp16.v cp16.hout (call PP4 200 (.func 13) cp16.args cp16.hin) = true := by kernel_rfl
theorem cr17 : runCov cp17.v cp17.hout (call PP4 200 (.func 13) cp17.args cp17.hin) = true := by kernel_rfl
end Go.Proofs.YtjhionjmlcccjaaGreatDoor.Ev
