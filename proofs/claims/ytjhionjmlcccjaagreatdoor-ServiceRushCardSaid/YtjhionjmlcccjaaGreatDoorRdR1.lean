/- The kernel runs the law over known calls: part 1. -/
import Derived.Test.YtjhionjmlcccjaaGreatDoorPkR
import Derived.KernelRfl
namespace Go.Proofs.YtjhionjmlcccjaaGreatDoor.Ev
open Go Go.Proofs
set_option maxRecDepth 1000000
set_option linter.unusedVariables false
set_option linter.unusedSimpArgs false
theorem run2 : runIs (call PK2 200 (.func 5) [(.bool false), (.bool true)] h0) (.bool true) = true := by kernel_rfl
theorem run3 : runIs (call PK3 200 (.func 5) [(.bool false), (.bool false)] h0) (.bool true) = true := by kernel_rfl
end Go.Proofs.YtjhionjmlcccjaaGreatDoor.Ev
