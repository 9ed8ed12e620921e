/- The kernel runs calls: part 2. -/
import Derived.Test.YtjhionjmlcccjaaGreatDoorPkR
import Derived.KernelRfl
namespace Go.Proofs.YtjhionjmlcccjaaGreatDoor.Ev
open Go Go.Proofs
set_option maxRecDepth 1000000
set_option linter.unusedVariables false
set_option linter.unusedSimpArgs false
theorem cr6 : runCov cp6.v cp6.hout (call PP4 200 (.func 13) cp6.args cp6.hin) = true := by kernel_rfl
theorem cr7 : runCov cp7.v cp7.hout (call PP4 200 (.func 13) cp7.args cp7.hin) = true := by kernel_rfl
theorem cr8 : runCov cp8.v cp8.hout (call PP4 200 (.func 13) cp8.args cp8.hin) = true := by kernel_rfl
end Go.Proofs.YtjhionjmlcccjaaGreatDoor.Ev
