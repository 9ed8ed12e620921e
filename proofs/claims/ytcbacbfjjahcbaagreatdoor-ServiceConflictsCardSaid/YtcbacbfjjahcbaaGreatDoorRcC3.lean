/- The kernel runs calls: part 3. -/
import Derived.Test.YtcbacbfjjahcbaaGreatDoorPkC
import Derived.KernelRfl
namespace Go.Proofs.YtcbacbfjjahcbaaGreatDoor.Ev
open Go Go.Proofs
set_option maxRecDepth 1000000
set_option linter.unusedVariables false
set_option linter.unusedSimpArgs false
theorem cfr18_0 : runsPT PP3 198 pt18_0 = true := by kernel_rfl
theorem cfr16_1 : runsPT PP3 198 pt16_1 = true := by kernel_rfl
theorem cfr11_1 : runsPT PP3 198 pt11_1 = true := by kernel_rfl
theorem cr121 : runCov cp121.v cp121.hout (call PP4 200 (.func 18) cp121.args cp121.hin) = true := by kernel_rfl
end Go.Proofs.YtcbacbfjjahcbaaGreatDoor.Ev
