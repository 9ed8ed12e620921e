/- The kernel runs calls: part 4. -/
import Derived.Test.YtjhionjmlcccjaaGreatDoorPkA
import Derived.KernelRfl
namespace Go.Proofs.YtjhionjmlcccjaaGreatDoor.Ev
open Go Go.Proofs
set_option maxRecDepth 1000000
set_option linter.unusedVariables false
set_option linter.unusedSimpArgs false
theorem cr8 : runCov cp8.v cp8.hout (call PP4 200 (.func 13) cp8.args cp8.hin) = true := by kernel_rfl
theorem cr9 : runCov cp9.v cp9.hout (call PP4 200 (.func 13) cp9.args cp9.hin) = true := by kernel_rfl
end Go.Proofs.YtjhionjmlcccjaaGreatDoor.Ev
