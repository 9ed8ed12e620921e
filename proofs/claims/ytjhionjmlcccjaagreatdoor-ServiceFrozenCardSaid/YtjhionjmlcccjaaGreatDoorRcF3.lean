/- The kernel runs calls: part 3. -/
import Derived.Test.YtjhionjmlcccjaaGreatDoorPkF
import Derived.KernelRfl
namespace Go.Proofs.YtjhionjmlcccjaaGreatDoor.Ev
open Go Go.Proofs
set_option maxRecDepth 1000000
set_option linter.unusedVariables false
set_option linter.unusedSimpArgs false
theorem cr30 : runCov cp30.v cp30.hout (call PP4 200 (.func 13) cp30.args cp30.hin) = true := by kernel_rfl
theorem cr31 : runCov cp31.v cp31.hout (call PP4 200 (.func 13) cp31.args cp31.hin) = true := by kernel_rfl
theorem cr32 : runCov cp32.v cp32.hout (call PP4 200 (.func 13) cp32.args cp32.hin) = true := by kernel_rfl
theorem cr33 : runCov cp33.v cp33.hout (call PP4 200 (.func 13) cp33.args cp33.hin) = true := by kernel_rfl
theorem cr34 : runCov cp34.v cp34.hout (call PP4 200 (.func 13) cp34.args cp34.hin) = true := by kernel_rfl
theorem cr35 : runCov cp35.v cp35.hout (call PP4 200 (.func 13) cp35.args cp35.hin) = true := by kernel_rfl
theorem cr36 : runCov cp36.v cp36.hout (call PP4 200 (.func 13) cp36.args cp36.hin) = true := by kernel_rfl
theorem cr37 : runCov cp37.v cp37.hout (call PP4 200 (.func 13) cp37.args cp37.hin) = true := by kernel_rfl
theorem cr38 : runCov cp38.v cp38.hout (call PP4 200 (.func 13) cp38.args cp38.hin) = true := by kernel_rfl
theorem cr39 : runCov cp39.v cp39.hout (call PP4 200 (.func 13) cp39.args cp39.hin) = true := by kernel_rfl
end Go.Proofs.YtjhionjmlcccjaaGreatDoor.Ev
