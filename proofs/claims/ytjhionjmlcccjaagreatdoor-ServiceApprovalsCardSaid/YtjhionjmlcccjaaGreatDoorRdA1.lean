/- The kernel runs the law over known calls: part 1. -/
import Derived.Test.YtjhionjmlcccjaaGreatDoorPkA
import Derived.KernelRfl
namespace Go.Proofs.YtjhionjmlcccjaaGreatDoor.Ev
open Go Go.Proofs
set_option maxRecDepth 1000000
set_option linter.unusedVariables false
set_option linter.unusedSimpArgs false
theorem run3 : runIs (call PK3 200 (.func 3) [(.modv .u8 3 1), (.modv .u8 3 0)] h0) (.bool true) = true := by kernel_rfl
theorem run4 : runIs (call PK4 200 (.func 3) [(.modv .u8 3 1), (.modv .u8 3 1)] h0) (.bool true) = true := by kernel_rfl
theorem run5 : runIs (call PK5 200 (.func 3) [(.modv .u8 3 1), (.modv .u8 3 2)] h0) (.bool true) = true := by kernel_rfl
end Go.Proofs.YtjhionjmlcccjaaGreatDoor.Ev
