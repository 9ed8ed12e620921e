/- The kernel runs calls: part 1. -/
import Derived.Test.YtjhionjmlcccjaaGreatDoorPkR
import Derived.KernelRfl
namespace Go.Proofs.YtjhionjmlcccjaaGreatDoor.Ev
open Go Go.Proofs
set_option maxRecDepth 1000000
set_option linter.unusedVariables false
set_option linter.unusedSimpArgs false
theorem cr3 : runCov cp3.v cp3.hout (call PP4 200 (.func 13) cp3.args cp3.hin) = true := by kernel_rfl
theorem cr4 : runCov cp4.v cp4.hout (call PP4 200 (.func 13) cp4.args cp4.hin) = true := by kernel_rfl
theorem cr5 : runCov cp5.v cp5.hout (call PP4 200 (.func 13) cp5.args cp5.hin) = true := by kernel_rfl
end Go.Proofs.YtjhionjmlcccjaaGreatDoor.Ev
