/- The kernel runs calls: part 4. -/
import Derived.Test.YtjhionjmlcccjaaGreatDoorPkR
import Derived.KernelRfl
namespace Go.Proofs.YtjhionjmlcccjaaGreatDoor.Ev
open Go Go.Proofs
set_option maxRecDepth 1000000
set_option linter.unusedVariables false
set_option linter.unusedSimpArgs false
theorem cr12 : runCov cp12.v cp12.hout (call PP4 200 (.func 13) cp12.args cp12.hin) = true := by kernel_rfl
theorem cr13 : runCov cp13.v cp13.hout (call PP4 200 (.func 13) cp13.args cp13.hin) = true := by kernel_rfl
theorem cr14 : runCov cp14.v cp14.hout (call PP4 200 (.func 13) cp14.args cp14.hin) = true := by kernel_rfl
end Go.Proofs.YtjhionjmlcccjaaGreatDoor.Ev
