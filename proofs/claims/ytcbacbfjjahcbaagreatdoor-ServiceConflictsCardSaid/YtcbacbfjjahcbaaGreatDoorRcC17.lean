/- The kernel runs calls: part 17. -/
import Derived.Test.YtcbacbfjjahcbaaGreatDoorPkC
import Derived.KernelRfl
namespace Go.Proofs.YtcbacbfjjahcbaaGreatDoor.Ev
open Go Go.Proofs
set_option maxRecDepth 1000000
set_option linter.unusedVariables false
set_option linter.unusedSimpArgs false
theorem cr12 : runCov cp12.v cp12.hout (call PP4 200 (.func 18) cp12.args cp12.hin) = true := by kernel_rfl
theorem cr67 : runCov cp67.v cp67.hout (call PP4 200 (.func 18) cp67.args cp67.hin) = true := by kernel_rfl
theorem cfr2_0 : runsPT PP3 198 pt2_0 = true := by kernel_rfl
theorem cfr7_0 : runsPT PP3 198 pt7_0 = true := by kernel_rfl
theorem cfr14_0 : runsPT PP3 198 pt14_0 = true := by kernel_rfl
theorem cfr19_0 : runsPT PP3 198 pt19_0 = true := by kernel_rfl
theorem cfr0_0 : runsPT PP3 198 pt0_0 = true := by kernel_rfl
theorem cfr1_0 : runsPT PP3 198 pt1_0 = true := by kernel_rfl
theorem cfr8_0 : runsPT PP3 198 pt8_0 = true := by kernel_rfl
theorem crk12_0 : runCov ck12_0.v ck12_0.hout (call PP3 200 (.func 195) ck12_0.args ck12_0.hin) = true := by kernel_rfl
theorem crk18_0 : runCov ck18_0.v ck18_0.hout (call PP3 200 (.func 195) ck18_0.args ck18_0.hin) = true := by kernel_rfl
theorem crk11_0 : runCov ck11_0.v ck11_0.hout (call PP3 200 (.func 195) ck11_0.args ck11_0.hin) = true := by kernel_rfl
theorem crk16_0 : runCov ck16_0.v ck16_0.hout (call PP3 200 (.func 195) ck16_0.args ck16_0.hin) = true := by kernel_rfl
theorem crk12_1 : runCov ck12_1.v ck12_1.hout (call PP3 200 (.func 195) ck12_1.args ck12_1.hin) = true := by kernel_rfl
end Go.Proofs.YtcbacbfjjahcbaaGreatDoor.Ev
