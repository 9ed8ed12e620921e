/- The kernel runs the law that every other law asks first. -/
import Derived.Test.YtcbacbfjjahcbaaGreatDoorPg
import Derived.KernelRfl
namespace Go.Proofs.YtcbacbfjjahcbaaGreatDoor.Ev
open Go Go.Proofs
set_option maxRecDepth 1000000
set_option linter.unusedVariables false
set_option linter.unusedSimpArgs false
theorem runS : runIs (call PP2 200 (.func 5) [] h0) (.bool true) = true := by kernel_rfl
end Go.Proofs.YtcbacbfjjahcbaaGreatDoor.Ev
