/- The kernel runs calls: part 6. -/
import Derived.Test.YtjhionjmlcccjaaGreatDoorPkF
import Derived.KernelRfl
namespace Go.Proofs.YtjhionjmlcccjaaGreatDoor.Ev
open Go Go.Proofs
set_option maxRecDepth 1000000
set_option linter.unusedVariables false
set_option linter.unusedSimpArgs false
theorem cr60 : runCov cp60.v cp60.hout (call PP4 200 (.func 13) cp60.args cp60.hin) = true := by kernel_rfl
theorem cr61 : runCov cp61.v cp61.hout (call PP4 200 (.func 13) cp61.args cp61.hin) = true := by kernel_rfl
theorem cr62 : runCov cp62.v cp62.hout (call PP4 200 (.func 13) cp62.args cp62.hin) = true := by kernel_rfl
theorem cr63 : runCov cp63.v cp63.hout (call PP4 200 (.func 13) cp63.args cp63.hin) = true := by kernel_rfl
theorem cr64 : runCov cp64.v cp64.hout (call PP4 200 (.func 13) cp64.args cp64.hin) = true := by kernel_rfl
theorem cr65 : runCov cp65.v cp65.hout (call PP4 200 (.func 13) cp65.args cp65.hin) = true := by kernel_rfl
theorem cr66 : runCov cp66.v cp66.hout (call PP4 200 (.func 13) cp66.args cp66.hin) = true := by kernel_rfl
theorem cr67 : runCov cp67.v cp67.hout (call PP4 200 (.func 13) cp67.args cp67.hin) = true := by kernel_rfl
theorem cr68 : runCov cp68.v cp68.hout (call PP4 200 (.func 13) cp68.args cp68.hin) = true := by kernel_rfl
theorem cr69 : runCov cp69.v cp69.hout (call PP4 200 (.func 13) cp69.args cp69.hin) = true := by kernel_rfl
end Go.Proofs.YtjhionjmlcccjaaGreatDoor.Ev
