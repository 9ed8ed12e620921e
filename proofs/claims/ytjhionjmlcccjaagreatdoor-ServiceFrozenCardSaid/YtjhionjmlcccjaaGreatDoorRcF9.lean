/- The kernel runs calls: part 9. -/
import Derived.Test.YtjhionjmlcccjaaGreatDoorPkF
import Derived.KernelRfl
namespace Go.Proofs.YtjhionjmlcccjaaGreatDoor.Ev
open Go Go.Proofs
set_option maxRecDepth 1000000
set_option linter.unusedVariables false
set_option linter.unusedSimpArgs false
theorem cr90 : runCov cp90.v cp90.hout (call PP4 200 (.func 13) cp90.args cp90.hin) = true := by kernel_rfl
theorem cr91 : runCov cp91.v cp91.hout (call PP4 200 (.func 13) cp91.args cp91.hin) = true := by kernel_rfl
theorem cr92 : runCov cp92.v cp92.hout (call PP4 200 (.func 13) cp92.args cp92.hin) = true := by kernel_rfl
theorem cr93 : runCov cp93.v cp93.hout (call PP4 200 (.func 13) cp93.args cp93.hin) = true := by kernel_rfl
theorem cr94 : runCov cp94.v cp94.hout (call PP4 200 (.func 13) cp94.args cp94.hin) = true := by kernel_rfl
theorem cr95 : runCov cp95.v cp95.hout (call PP4 200 (.func 13) cp95.args cp95.hin) = true := by kernel_rfl
theorem cr96 : runCov cp96.v cp96.hout (call PP4 200 (.func 13) cp96.args cp96.hin) = true := by kernel_rfl
theorem cr97 : runCov cp97.v cp97.hout (call PP4 200 (.func 13) cp97.args cp97.hin) = true := by kernel_rfl
theorem cr98 : runCov cp98.v cp98.hout (call PP4 200 (.func 13) cp98.args cp98.hin) = true := by kernel_rfl
theorem cr99 : runCov cp99.v cp99.hout (call PP4 200 (.func 13) cp99.args cp99.hin) = true := by kernel_rfl
end Go.Proofs.YtjhionjmlcccjaaGreatDoor.Ev
