/- The kernel runs calls: part 5. -/
import Derived.Test.YtcbacbfjjahcbaaGreatDoorPkC
import Derived.KernelRfl
namespace Go.Proofs.YtcbacbfjjahcbaaGreatDoor.Ev
open Go Go.Proofs
set_option maxRecDepth 1000000
set_option linter.unusedVariables false
set_option linter.unusedSimpArgs false
theorem cfr12_2 : runsPT PP3 198 pt12_2 = true := by kernel_rfl
theorem cfr12_3 : runsPT PP3 198 pt12_3 = true := by kernel_rfl
theorem cfr18_2 : runsPT PP3 198 pt18_2 = true := by kernel_rfl
theorem cr28 : runCov cp28.v cp28.hout (call PP4 200 (.func 18) cp28.args cp28.hin) = true := by kernel_rfl
end Go.Proofs.YtcbacbfjjahcbaaGreatDoor.Ev
