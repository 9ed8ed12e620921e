/- The kernel runs calls: part 10. -/
import Derived.Test.YtcbacbfjjahcbaaGreatDoorPkC
import Derived.KernelRfl
namespace Go.Proofs.YtcbacbfjjahcbaaGreatDoor.Ev
open Go Go.Proofs
set_option maxRecDepth 1000000
set_option linter.unusedVariables false
set_option linter.unusedSimpArgs false
theorem cfr10_0 : runsPT PP3 198 pt10_0 = true := by kernel_rfl
theorem cfr6_0 : runsPT PP3 198 pt6_0 = true := by kernel_rfl
theorem cfr9_0 : runsPT PP3 198 pt9_0 = true := by kernel_rfl
theorem cfr17_0 : runsPT PP3 198 pt17_0 = true := by kernel_rfl
theorem cfr13_0 : runsPT PP3 198 pt13_0 = true := by kernel_rfl
end Go.Proofs.YtcbacbfjjahcbaaGreatDoor.Ev
