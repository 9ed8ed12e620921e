/- The kernel runs calls: part 4. -/
import Derived.Test.YtcbacbfjjahcbaaGreatDoorPkC
import Derived.KernelRfl
namespace Go.Proofs.YtcbacbfjjahcbaaGreatDoor.Ev
open Go Go.Proofs
set_option maxRecDepth 1000000
set_option linter.unusedVariables false
set_option linter.unusedSimpArgs false
theorem cfr12_1 : runsPT PP3 198 pt12_1 = true := by kernel_rfl
theorem cfr18_1 : runsPT PP3 198 pt18_1 = true := by kernel_rfl
theorem cfr11_2 : runsPT PP3 198 pt11_2 = true := by kernel_rfl
theorem cr54 : runCov cp54.v cp54.hout (call PP4 200 (.func 18) cp54.args cp54.hin) = true := by kernel_rfl
end Go.Proofs.YtcbacbfjjahcbaaGreatDoor.Ev
