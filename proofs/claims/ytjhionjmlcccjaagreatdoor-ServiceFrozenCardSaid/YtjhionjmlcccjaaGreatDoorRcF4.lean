/- The kernel runs calls: part 4. -/
import Derived.Test.YtjhionjmlcccjaaGreatDoorPkF
import Derived.KernelRfl
namespace Go.Proofs.YtjhionjmlcccjaaGreatDoor.Ev
open Go Go.Proofs
set_option maxRecDepth 1000000
set_option linter.unusedVariables false
set_option linter.unusedSimpArgs false
theorem cr40 : runCov cp40.v cp40.hout (call PP4 200 (.func 13) cp40.args cp40.hin) = true := by kernel_rfl
theorem cr41 : runCov cp41.v cp41.hout (call PP4 200 (.func 13) cp41.args cp41.hin) = true := by kernel_rfl
theorem cr42 : runCov cp42.v cp42.hout (call PP4 200 (.func 13) cp42.args cp42.hin) = true := by kernel_rfl
theorem cr43 : runCov cp43.v cp43.hout (call PP4 200 (.func 13) cp43.args cp43.hin) = true := by kernel_rfl
theorem cr44 : runCov cp44.v cp44.hout (call PP4 200 (.func 13) cp44.args cp44.hin) = true := by kernel_rfl
theorem cr45 : runCov cp45.v cp45.hout (call PP4 200 (.func 13) cp45.args cp45.hin) = true := by kernel_rfl
theorem cr46 : runCov cp46.v cp46.hout (call PP4 200 (.func 13) cp46.args cp46.hin) = true := by kernel_rfl
theorem cr47 : runCov cp47.v cp47.hout (call PP4 200 (.func 13) cp47.args cp47.hin) = true := by kernel_rfl
theorem cr48 : runCov cp48.v cp48.hout (call PP4 200 (.func 13) cp48.args cp48.hin) = true := by kernel_rfl
theorem cr49 : runCov cp49.v cp49.hout (call PP4 200 (.func 13) cp49.args cp49.hin) = true := by kernel_rfl
end Go.Proofs.YtjhionjmlcccjaaGreatDoor.Ev
