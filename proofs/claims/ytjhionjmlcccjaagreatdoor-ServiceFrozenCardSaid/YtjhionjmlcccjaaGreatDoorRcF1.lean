/- The kernel runs calls: part 1. -/
import Derived.Test.YtjhionjmlcccjaaGreatDoorPkF
import Derived.KernelRfl
namespace Go.Proofs.YtjhionjmlcccjaaGreatDoor.Ev
open Go Go.Proofs
set_option maxRecDepth 1000000
set_option linter.unusedVariables false
set_option linter.unusedSimpArgs false
theorem cr10 : runCov cp10.v cp10.hout (call PP4 200 (.func 13) cp10.args cp10.hin) = true := by kernel_rfl
theorem cr11 : runCov cp11.v cp11.hout (call PP4 200 (.func 13) cp11.args cp11.hin) = true := by kernel_rfl
theorem cr12 : runCov cp12.v cp12.hout (call PP4 200 (.func 13) cp12.args cp12.hin) = true := by kernel_rfl
theorem cr13 : runCov cp13.v cp13.hout (call PP4 200 (.func 13) cp13.args cp13.hin) = true := by kernel_rfl
theorem cr14 : runCov cp14.v cp14.hout (call PP4 200 (.func 13) cp14.args cp14.hin) = true := by kernel_rfl
theorem cr15 : runCov cp15.v cp15.hout (call PP4 200 (.func 13) cp15.args cp15.hin) = true := by kernel_rfl
theorem cr16 : runCov cp16.v cp16.hout (call PP4 200 (.func 13) cp16.args cp16.hin) = true := by kernel_rfl
theorem cr17 : runCov cp17.v cp17.hout (call PP4 200 (.func 13) cp17.args cp17.hin) = true := by kernel_rfl
theorem cr18 : runCov cp18.v cp18.hout (call PP4 200 (.func 13) cp18.args cp18.hin) = true := by kernel_rfl
theorem cr19 : runCov cp19.v cp19.hout (call PP4 200 (.func 13) cp19.args cp19.hin) = true := by kernel_rfl
end Go.Proofs.YtjhionjmlcccjaaGreatDoor.Ev
