/- The kernel runs calls: part 15. -/
import Derived.Test.YtcbacbfjjahcbaaGreatDoorPkC
import Derived.KernelRfl
namespace Go.Proofs.YtcbacbfjjahcbaaGreatDoor.Ev
open Go Go.Proofs
set_option maxRecDepth 1000000
set_option linter.unusedVariables false
set_option linter.unusedSimpArgs false
theorem cr85 : runCov cp85.v cp85.hout (call PL13 200 (.func 133) cp85.args cp85.hin) = true := by kernel_rfl
theorem cr6 : runCov cp6.v cp6.hout (call PP4 200 (.func 18) cp6.args cp6.hin) = true := by kernel_rfl
theorem cr65 : runCov cp65.v cp65.hout (call PP4 200 (.func 18) cp65.args cp65.hin) = true := by kernel_rfl
theorem cr89 : runCov cp89.v cp89.hout (call PP4 200 (.func 18) cp89.args cp89.hin) = true := by kernel_rfl
theorem cr92 : runCov cp92.v cp92.hout (call PP4 200 (.func 18) cp92.args cp92.hin) = true := by kernel_rfl
theorem cr24 : runCov cp24.v cp24.hout (call PP4 200 (.func 18) cp24.args cp24.hin) = true := by kernel_rfl
theorem cr38 : runCov cp38.v cp38.hout (call PP4 200 (.func 18) cp38.args cp38.hin) = true := by kernel_rfl
theorem cr109 : runCov cp109.v cp109.hout (call PP4 200 (.func 18) cp109.args cp109.hin) = true := by kernel_rfl
theorem cr23 : runCov cp23.v cp23.hout (call PP4 200 (.func 18) cp23.args cp23.hin) = true := by kernel_rfl
theorem cr35 : runCov cp35.v cp35.hout (call PP4 200 (.func 18) cp35.args cp35.hin) = true := by kernel_rfl
theorem cr53 : runCov cp53.v cp53.hout (call PP4 200 (.func 18) cp53.args cp53.hin) = true := by kernel_rfl
theorem cr79 : runCov cp79.v cp79.hout (call PP4 200 (.func 18) cp79.args cp79.hin) = true := by kernel_rfl
theorem cfr4_0 : runsPT PP3 198 pt4_0 = true := by kernel_rfl
theorem crk18_1 : runCov ck18_1.v ck18_1.hout (call PP3 200 (.func 195) ck18_1.args ck18_1.hin) = true := by kernel_rfl
end Go.Proofs.YtcbacbfjjahcbaaGreatDoor.Ev
