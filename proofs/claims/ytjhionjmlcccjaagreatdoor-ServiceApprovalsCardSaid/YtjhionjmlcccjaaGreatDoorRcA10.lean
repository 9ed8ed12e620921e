/- The kernel runs calls: part 10. -/
import Derived.Test.YtjhionjmlcccjaaGreatDoorPkA
import Derived.KernelRfl
namespace Go.Proofs.YtjhionjmlcccjaaGreatDoor.Ev
open Go Go.Proofs
set_option maxRecDepth 1000000
set_option linter.unusedVariables false
set_option linter.unusedSimpArgs false
theorem cr20 : runCov cp20.v cp20.hout (call PP4 200 (.func 13) cp20.args cp20.hin) = true := by kernel_rfl
theorem cr21 : runCov cp21.v cp21.hout (call PP4 200 (.func 13) cp21.args cp21.hin) = true := by kernel_rfl
end Go.Proofs.YtjhionjmlcccjaaGreatDoor.Ev
