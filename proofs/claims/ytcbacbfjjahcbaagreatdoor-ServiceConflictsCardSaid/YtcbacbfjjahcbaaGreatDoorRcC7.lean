/- The kernel runs calls: part 7. -/
import Derived.Test.YtcbacbfjjahcbaaGreatDoorPkC
import Derived.KernelRfl
namespace Go.Proofs.YtcbacbfjjahcbaaGreatDoor.Ev
open Go Go.Proofs
set_option maxRecDepth 1000000
set_option linter.unusedVariables false
set_option linter.unusedSimpArgs false
theorem cfr11_4 : runsPT PP3 198 pt11_4 = true := by kernel_rfl
theorem cfr18_3 : runsPT PP3 198 pt18_3 = true := by kernel_rfl
theorem cfr12_4 : runsPT PP3 198 pt12_4 = true := by kernel_rfl
theorem cr46 : runCov cp46.v cp46.hout (call PP4 200 (.func 18) cp46.args cp46.hin) = true := by kernel_rfl
end Go.Proofs.YtcbacbfjjahcbaaGreatDoor.Ev
