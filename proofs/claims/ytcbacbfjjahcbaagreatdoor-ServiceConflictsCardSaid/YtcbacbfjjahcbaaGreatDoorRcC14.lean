/- The kernel runs calls: part 14. -/
import Derived.Test.YtcbacbfjjahcbaaGreatDoorPkC
import Derived.KernelRfl
namespace Go.Proofs.YtcbacbfjjahcbaaGreatDoor.Ev
open Go Go.Proofs
set_option maxRecDepth 1000000
set_option linter.unusedVariables false
set_option linter.unusedSimpArgs false
theorem cr77 : runCov cp77.v cp77.hout (call PP4 200 (.func 18) cp77.args cp77.hin) = true := by kernel_rfl
theorem cr69 : runCov cp69.v cp69.hout (call PL9 200 (.func 133) cp69.args cp69.hin) = true := by kernel_rfl
theorem run0 : runIs (call PK0 200 (.func 3) [(.uns 0 0), (.uns 1 1), (.modv .u8 4 0)] h0) (.bool true) = true := by kernel_rfl
theorem run1 : runIs (call PK1 200 (.func 3) [(.uns 0 0), (.uns 1 1), (.modv .u8 4 1)] h0) (.bool true) = true := by kernel_rfl
theorem run2 : runIs (call PK2 200 (.func 3) [(.uns 0 0), (.uns 1 1), (.modv .u8 4 2)] h0) (.bool true) = true := by kernel_rfl
theorem run3 : runIs (call PK3 200 (.func 3) [(.uns 0 0), (.uns 1 1), (.modv .u8 4 3)] h0) (.bool true) = true := by kernel_rfl
theorem run4 : runIs (call PK4 200 (.func 3) [(.uns 0 0), (.uns 1 0), (.modv .u8 4 0)] h0) (.bool true) = true := by kernel_rfl
theorem run5 : runIs (call PK5 200 (.func 3) [(.uns 0 0), (.uns 1 0), (.modv .u8 4 1)] h0) (.bool true) = true := by kernel_rfl
theorem run6 : runIs (call PK6 200 (.func 3) [(.uns 0 0), (.uns 1 0), (.modv .u8 4 2)] h0) (.bool true) = true := by kernel_rfl
theorem run7 : runIs (call PK7 200 (.func 3) [(.uns 0 0), (.uns 1 0), (.modv .u8 4 3)] h0) (.bool true) = true := by kernel_rfl
theorem cr88 : runCov cp88.v cp88.hout (call PL15 200 (.func 133) cp88.args cp88.hin) = true := by kernel_rfl
theorem cr14 : runCov cp14.v cp14.hout (call PL3 200 (.func 133) cp14.args cp14.hin) = true := by kernel_rfl
end Go.Proofs.YtcbacbfjjahcbaaGreatDoor.Ev
