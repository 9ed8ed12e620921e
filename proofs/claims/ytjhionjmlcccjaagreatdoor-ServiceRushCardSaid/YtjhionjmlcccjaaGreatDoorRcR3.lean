/- The kernel runs calls: part 3. -/
import Derived.Test.YtjhionjmlcccjaaGreatDoorPkR
import Derived.KernelRfl
namespace Go.Proofs.YtjhionjmlcccjaaGreatDoor.Ev
open Go Go.Proofs
set_option maxRecDepth 1000000
set_option linter.unusedVariables false
set_option linter.unusedSimpArgs false
theorem cr9 : runCov cp9.v cp9.hout (call PP4 200 (.func 13) cp9.args cp9.hin) = true := by kernel_rfl
theorem cr10 : runCov cp10.v cp10.hout (call PP4 200 (.func 13) cp10.args cp10.hin) = true := by kernel_rfl
theorem cr11 : runCov cp11.v cp11.hout (call PP4 200 (.func 13) cp11.args cp11.hin) = true := by kernel_rfl
end Go.Proofs.YtjhionjmlcccjaaGreatDoor.Ev
