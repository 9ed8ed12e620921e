/- The kernel runs calls: part 6. -/
import Derived.Test.YtcbacbfjjahcbaaGreatDoorPkC
import Derived.KernelRfl
namespace Go.Proofs.YtcbacbfjjahcbaaGreatDoor.Ev
open Go Go.Proofs
set_option maxRecDepth 1000000
set_option linter.unusedVariables false
set_option linter.unusedSimpArgs false
theorem cfr16_2 : runsPT PP3 198 pt16_2 = true := by kernel_rfl
theorem cfr11_3 : runsPT PP3 198 pt11_3 = true := by kernel_rfl
theorem cfr16_3 : runsPT PP3 198 pt16_3 = true := by kernel_rfl
theorem cr76 : runCov cp76.v cp76.hout (call PP4 200 (.func 18) cp76.args cp76.hin) = true := by kernel_rfl
theorem cr62 : runCov cp62.v cp62.hout (call PL8 200 (.func 133) cp62.args cp62.hin) = true := by kernel_rfl
end Go.Proofs.YtcbacbfjjahcbaaGreatDoor.Ev
