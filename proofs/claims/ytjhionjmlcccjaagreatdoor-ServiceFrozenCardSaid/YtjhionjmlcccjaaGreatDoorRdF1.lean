/- The kernel runs the law over known calls: part 1. -/
import Derived.Test.YtjhionjmlcccjaaGreatDoorPkF
import Derived.KernelRfl
namespace Go.Proofs.YtjhionjmlcccjaaGreatDoor.Ev
open Go Go.Proofs
set_option maxRecDepth 1000000
set_option linter.unusedVariables false
set_option linter.unusedSimpArgs false
theorem run9 : runIs (call PK9 200 (.func 4) [(.modv .u8 5 1), (.modv .u8 5 4)] h0) (.bool true) = true := by kernel_rfl
theorem run10 : runIs (call PK10 200 (.func 4) [(.modv .u8 5 2), (.modv .u8 5 0)] h0) (.bool true) = true := by kernel_rfl
theorem run11 : runIs (call PK11 200 (.func 4) [(.modv .u8 5 2), (.modv .u8 5 1)] h0) (.bool true) = true := by kernel_rfl
theorem run12 : runIs (call PK12 200 (.func 4) [(.modv .u8 5 2), (.modv .u8 5 2)] h0) (.bool true) = true := by kernel_rfl
theorem run13 : runIs (call PK13 200 (.func 4) [(.modv .u8 5 2), (.modv .u8 5 3)] h0) (.bool true) = true := by kernel_rfl
theorem run14 : runIs (call PK14 200 (.func 4) [(.modv .u8 5 2), (.modv .u8 5 4)] h0) (.bool true) = true := by kernel_rfl
theorem run15 : runIs (call PK15 200 (.func 4) [(.modv .u8 5 3), (.modv .u8 5 0)] h0) (.bool true) = true := by kernel_rfl
theorem run16 : runIs (call PK16 200 (.func 4) [(.modv .u8 5 3), (.modv .u8 5 1)] h0) (.bool true) = true := by kernel_rfl
theorem run17 : runIs (call PK17 200 (.func 4) [(.modv .u8 5 3), (.modv .u8 5 2)] h0) (.bool true) = true := by kernel_rfl
end Go.Proofs.YtjhionjmlcccjaaGreatDoor.Ev
