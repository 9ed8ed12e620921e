/- The kernel runs the law over known calls: part 0. -/
import Derived.Test.YtjhionjmlcccjaaGreatDoorPkF
import Derived.KernelRfl
namespace Go.Proofs.YtjhionjmlcccjaaGreatDoor.Ev
open Go Go.Proofs
set_option maxRecDepth 1000000
set_option linter.unusedVariables false
set_option linter.unusedSimpArgs false
theorem run0 : runIs (call PK0 200 (.func 4) [(.modv .u8 5 0), (.modv .u8 5 0)] h0) (.bool true) = true := by kernel_rfl
theorem run1 : runIs (call PK1 200 (.func 4) [(.modv .u8 5 0), (.modv .u8 5 1)] h0) (.bool true) = true := by kernel_rfl
theorem run2 : runIs (call PK2 200 (.func 4) [(.modv .u8 5 0), (.modv .u8 5 2)] h0) (.bool true) = true := by kernel_rfl
theorem run3 : runIs (call PK3 200 (.func 4) [(.modv .u8 5 0), (.modv .u8 5 3)] h0) (.bool true) = true := by kernel_rfl
theorem run4 : runIs (call PK4 200 (.func 4) [(.modv .u8 5 0), (.modv .u8 5 4)] h0) (.bool true) = true := by kernel_rfl
theorem run5 : runIs (call PK5 200 (.func 4) [(.modv .u8 5 1), (.modv .u8 5 0)] h0) (.bool true) = true := by kernel_rfl
theorem run6 : runIs (call PK6 200 (.func 4) [(.modv .u8 5 1), (.modv .u8 5 1)] h0) (.bool true) = true := by kernel_rfl
theorem run7 : runIs (call PK7 200 (.func 4) [(.modv .u8 5 1), (.modv .u8 5 2)] h0) (.bool true) = true := by kernel_rfl
theorem run8 : runIs (call PK8 200 (.func 4) [(.modv .u8 5 1), (.modv .u8 5 3)] h0) (.bool true) = true := by kernel_rfl
end Go.Proofs.YtjhionjmlcccjaaGreatDoor.Ev
