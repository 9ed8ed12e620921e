/- The kernel runs the law over known calls: part 0. -/
import Derived.Test.YtjhionjmlcccjaaGreatDoorPkR
import Derived.KernelRfl
namespace Go.Proofs.YtjhionjmlcccjaaGreatDoor.Ev
open Go Go.Proofs
set_option maxRecDepth 1000000
set_option linter.unusedVariables false
set_option linter.unusedSimpArgs false
theorem run0 : runIs (call PK0 200 (.func 5) [(.bool true), (.bool true)] h0) (.bool true) = true := by kernel_rfl
theorem run1 : runIs (call PK1 200 (.func 5) [(.bool true), (.bool false)] h0) (.bool true) = true := by kernel_rfl
end Go.Proofs.YtjhionjmlcccjaaGreatDoor.Ev
