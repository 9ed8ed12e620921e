/- The kernel runs calls: part 2. -/
import Derived.Test.YtcbacbfjjahcbaaGreatDoorPkC
import Derived.KernelRfl
namespace Go.Proofs.YtcbacbfjjahcbaaGreatDoor.Ev
open Go Go.Proofs
set_option maxRecDepth 1000000
set_option linter.unusedVariables false
set_option linter.unusedSimpArgs false
theorem cfr11_0 : runsPT PP3 198 pt11_0 = true := by kernel_rfl
theorem cfr12_0 : runsPT PP3 198 pt12_0 = true := by kernel_rfl
theorem cfr16_0 : runsPT PP3 198 pt16_0 = true := by kernel_rfl
theorem cr18 : runCov cp18.v cp18.hout (call PP4 200 (.func 18) cp18.args cp18.hin) = true := by kernel_rfl
end Go.Proofs.YtcbacbfjjahcbaaGreatDoor.Ev
