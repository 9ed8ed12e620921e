/- The kernel runs calls: part 13. -/
import Derived.Test.YtcbacbfjjahcbaaGreatDoorPkC
import Derived.KernelRfl
namespace Go.Proofs.YtcbacbfjjahcbaaGreatDoor.Ev
open Go Go.Proofs
set_option maxRecDepth 1000000
set_option linter.unusedVariables false
set_option linter.unusedSimpArgs false
theorem cr101 : runCov cp101.v cp101.hout (call PL17 200 (.func 133) cp101.args cp101.hin) = true := by kernel_rfl
theorem cr49 : runCov cp49.v cp49.hout (call PP4 200 (.func 18) cp49.args cp49.hin) = true := by kernel_rfl
theorem cr107 : runCov cp107.v cp107.hout (call PP4 200 (.func 18) cp107.args cp107.hin) = true := by kernel_rfl
theorem cr32 : runCov cp32.v cp32.hout (call PP4 200 (.func 18) cp32.args cp32.hin) = true := by kernel_rfl
theorem cr19 : runCov cp19.v cp19.hout (call PP4 200 (.func 18) cp19.args cp19.hin) = true := by kernel_rfl
theorem cr0 : runCov cp0.v cp0.hout (call PP4 200 (.func 18) cp0.args cp0.hin) = true := by kernel_rfl
theorem cr61 : runCov cp61.v cp61.hout (call PP4 200 (.func 18) cp61.args cp61.hin) = true := by kernel_rfl
theorem cr71 : runCov cp71.v cp71.hout (call PL10 200 (.func 133) cp71.args cp71.hin) = true := by kernel_rfl
theorem cr22 : runCov cp22.v cp22.hout (call PP4 200 (.func 18) cp22.args cp22.hin) = true := by kernel_rfl
theorem cr52 : runCov cp52.v cp52.hout (call PP4 200 (.func 18) cp52.args cp52.hin) = true := by kernel_rfl
theorem cfr5_0 : runsPT PP3 198 pt5_0 = true := by kernel_rfl
theorem crk16_1 : runCov ck16_1.v ck16_1.hout (call PP3 200 (.func 195) ck16_1.args ck16_1.hin) = true := by kernel_rfl
end Go.Proofs.YtcbacbfjjahcbaaGreatDoor.Ev
