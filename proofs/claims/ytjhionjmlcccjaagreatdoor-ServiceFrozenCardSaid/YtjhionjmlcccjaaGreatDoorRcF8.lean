/- The kernel runs calls: part 8. -/
import Derived.Test.YtjhionjmlcccjaaGreatDoorPkF
import Derived.KernelRfl
namespace Go.Proofs.YtjhionjmlcccjaaGreatDoor.Ev
open Go Go.Proofs
set_option maxRecDepth 1000000
set_option linter.unusedVariables false
set_option linter.unusedSimpArgs false
theorem cr80 : runCov cp80.v cp80.hout (call PP4 200 (.func 13) cp80.args cp80.hin) = true := by kernel_rfl
theorem cr81 : runCov cp81.v cp81.hout (call PP4 200 (.func 13) cp81.args cp81.hin) = true := by kernel_rfl
theorem cr82 : runCov cp82.v cp82.hout (call PP4 200 (.func 13) cp82.args cp82.hin) = true := by kernel_rfl
theorem cr83 : runCov cp83.v cp83.hout (call PP4 200 (.func 13) cp83.args cp83.hin) = true := by kernel_rfl
theorem cr84 : runCov cp84.v cp84.hout (call PP4 200 (.func 13) cp84.args cp84.hin) = true := by kernel_rfl
theorem cr85 : runCov cp85.v cp85.hout (call PP4 200 (.func 13) cp85.args cp85.hin) = true := by kernel_rfl
theorem cr86 : runCov cp86.v cp86.hout (call PP4 200 (.func 13) cp86.args cp86.hin) = true := by kernel_rfl
theorem cr87 : runCov cp87.v cp87.hout (call PP4 200 (.func 13) cp87.args cp87.hin) = true := by kernel_rfl
theorem cr88 : runCov cp88.v cp88.hout (call PP4 200 (.func 13) cp88.args cp88.hin) = true := by kernel_rfl
theorem cr89 : runCov cp89.v cp89.hout (call PP4 200 (.func 13) cp89.args cp89.hin) = true := by kernel_rfl
end Go.Proofs.YtjhionjmlcccjaaGreatDoor.Ev
