/- The kernel runs calls: part 7. -/
import Derived.Test.YtjhionjmlcccjaaGreatDoorPkA
import Derived.KernelRfl
namespace Go.Proofs.YtjhionjmlcccjaaGreatDoor.Ev
open Go Go.Proofs
set_option maxRecDepth 1000000
set_option linter.unusedVariables false
set_option linter.unusedSimpArgs false
theorem cr14 : runCov cp14.v cp14.hout (call PP4 200 (.func 13) cp14.args cp14.hin) = true := by kernel_rfl
theorem cr15 : runCov cp15.v cp15.hout (call PP4 200 (.func 13) cp15.args cp15.hin) = true := by kernel_rfl
end Go.Proofs.YtjhionjmlcccjaaGreatDoor.Ev
