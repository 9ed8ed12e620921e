/- The kernel runs the law over known calls: part 2. -/
import Derived.Test.YtjhionjmlcccjaaGreatDoorPkF
import Derived.KernelRfl
namespace Go.Proofs.YtjhionjmlcccjaaGreatDoor.Ev
open Go Go.Proofs
set_option maxRecDepth 1000000
set_option linter.unusedVariables false
set_option linter.unusedSimpArgs false
theorem run18 : runIs (call PK18 200 (.func 4) [(.modv .u8 5 3), (.modv .u8 5 3)] h0) (.bool true) = true := by kernel_rfl
theorem run19 : runIs (call PK19 200 (.func 4) [(.modv .u8 5 3), (.modv .u8 5 4)] h0) (.bool true) = true := by kernel_rfl
theorem run20 : runIs (call PK20 200 (.func 4) [(.modv .u8 5 4), (.modv .u8 5 0)] h0) (.bool true) = true := by kernel_rfl
theorem run21 : runIs (call PK21 200 (.func 4) [(.modv .u8 5 4), (.modv .u8 5 1)] h0) (.bool true) = true := by kernel_rfl
theorem run22 : runIs (call PK22 200 (.func 4) [(.modv .u8 5 4), (.modv .u8 5 2)] h0) (.bool true) = true := by kernel_rfl
theorem run23 : runIs (call PK23 200 (.func 4) [(.modv .u8 5 4), (.modv .u8 5 3)] h0) (.bool true) = true := by kernel_rfl
theorem run24 : runIs (call PK24 200 (.func 4) [(.modv .u8 5 4), (.modv .u8 5 4)] h0) (.bool true) = true := by kernel_rfl
end Go.Proofs.YtjhionjmlcccjaaGreatDoor.Ev
