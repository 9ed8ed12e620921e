/- The kernel runs calls: part 1. -/
import Derived.Test.YtjhionjmlcccjaaGreatDoorPkA
import Derived.KernelRfl
namespace Go.Proofs.YtjhionjmlcccjaaGreatDoor.Ev
open Go Go.Proofs
set_option maxRecDepth 1000000
set_option linter.unusedVariables false
set_option linter.unusedSimpArgs false
theorem cr2 : runCov cp2.v cp2.hout (call PP4 200 (.func 13) cp2.args cp2.hin) = true := by kernel_rfl
theorem cr3 : runCov cp3.v cp3.hout (call PP4 200 (.func 13) cp3.args cp3.hin) = true := by kernel_rfl
end Go.Proofs.YtjhionjmlcccjaaGreatDoor.Ev
