/- The kernel runs calls: part 5. -/
import Derived.Test.YtjhionjmlcccjaaGreatDoorPkF
import Derived.KernelRfl
namespace Go.Proofs.YtjhionjmlcccjaaGreatDoor.Ev
open Go Go.Proofs
set_option maxRecDepth 1000000
set_option linter.unusedVariables false
set_option linter.unusedSimpArgs false
theorem cr50 : runCov cp50.v cp50.hout (call PP4 200 (.func 13) cp50.args cp50.hin) = true := by kernel_rfl
theorem cr51 : runCov cp51.v cp51.hout (call PP4 200 (.func 13) cp51.args cp51.hin) = true := by kernel_rfl
theorem cr52 : runCov cp52.v cp52.hout (call PP4 200 (.func 13) cp52.args cp52.hin) = true := by kernel_rfl
theorem cr53 : runCov cp53.v cp53.hout (call PP4 200 (.func 13) cp53.args cp53.hin) = true := by kernel_rfl
theorem cr54 : runCov cp54.v cp54.hout (call PP4 200 (.func 13) cp54.args cp54.hin) = true := by kernel_rfl
theorem cr55 : runCov cp55.v cp55.hout (call PP4 200 (.func 13) cp55.args cp55.hin) = true := by kernel_rfl
theorem cr56 : runCov cp56.v cp56.hout (call PP4 200 (.func 13) cp56.args cp56.hin) = true := by kernel_rfl
theorem cr57 : runCov cp57.v cp57.hout (call PP4 200 (.func 13) cp57.args cp57.hin) = true := by kernel_rfl
theorem cr58 : runCov cp58.v cp58.hout (call PP4 200 (.func 13) cp58.args cp58.hin) = true := by kernel_rfl
theorem cr59 : runCov cp59.v cp59.hout (call PP4 200 (.func 13) cp59.args cp59.hin) = true := by kernel_rfl
end Go.Proofs.YtjhionjmlcccjaaGreatDoor.Ev
