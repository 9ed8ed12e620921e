/- The kernel runs calls: part 0. -/
import Derived.Test.YtjhionjmlcccjaaGreatDoorPkF
import Derived.KernelRfl
namespace Go.Proofs.YtjhionjmlcccjaaGreatDoor.Ev
open Go Go.Proofs
set_option maxRecDepth 1000000
set_option linter.unusedVariables false
set_option linter.unusedSimpArgs false
theorem cr0 : runCov cp0.v cp0.hout (call PP4 200 (.func 13) cp0.args cp0.hin) = true := by kernel_rfl
theorem cr1 : runCov cp1.v cp1.hout (call PP4 200 (.func 13) cp1.args cp1.hin) = true := by kernel_rfl
theorem cr2 : runCov cp2.v cp2.hout (call PP4 200 (.func 13) cp2.args cp2.hin) = true := by kernel_rfl
theorem cr3 : runCov cp3.v cp3.hout (call PP4 200 (.func 13) cp3.args cp3.hin) = true := by kernel_rfl
theorem cr4 : runCov cp4.v cp4.hout (call PP4 200 (.func 13) cp4.args cp4.hin) = true := by kernel_rfl
theorem cr5 : runCov cp5.v cp5.hout (call PP4 200 (.func 13) cp5.args cp5.hin) = true := by kernel_rfl
theorem cr6 : runCov cp6.v cp6.hout (call PP4 200 (.func 13) cp6.args cp6.hin) = true := by kernel_rfl
theorem cr7 : runCov cp7.v cp7.hout (call PP4 200 (.func 13) cp7.args cp7.hin) = true := by kernel_rfl
theorem cr8 : runCov cp8.v cp8.hout (call PP4 200 (.func 13) cp8.args cp8.hin) = true := by kernel_rfl
theorem cr9 : runCov cp9.v cp9.hout (call PP4 200 (.func 13) cp9.args cp9.hin) = true := by kernel_rfl
end Go.Proofs.YtjhionjmlcccjaaGreatDoor.Ev
