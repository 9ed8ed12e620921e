/- The kernel runs calls: part 6. -/
import Derived.Test.YtjhionjmlcccjaaGreatDoorPkR
import Derived.KernelRfl
namespace Go.Proofs.YtjhionjmlcccjaaGreatDoor.Ev
open Go Go.Proofs
set_option maxRecDepth 1000000
set_option linter.unusedVariables false
set_option linter.unusedSimpArgs false
theorem cr18 : runCov cp18.v cp18.hout (call PP4 200 (.func 13) cp18.args cp18.hin) = true := by kernel_rfl
theorem cr19 : runCov cp19.v cp19.hout (call PP4 200 (.func 13) cp19.args cp19.hin) = true := by kernel_rfl
end Go.Proofs.YtjhionjmlcccjaaGreatDoor.Ev
