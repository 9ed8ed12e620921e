/- The kernel runs the law over known calls: part 0. -/
import Derived.Test.YtjhionjmlcccjaaGreatDoorPkN
import Derived.KernelRfl
namespace Go.Proofs.YtjhionjmlcccjaaGreatDoor.Ev
open Go Go.Proofs
set_option maxRecDepth 1000000
set_option linter.unusedVariables false
set_option linter.unusedSimpArgs false
theorem run0 : runIs (call PK0 200 (.func 7) [(.rng .i64 none (some (0))), .ustr, (.unk .i64)] h0) (.bool true) = true := by kernel_rfl
theorem run1 : runIs (call PK1 200 (.func 7) [(I 1), .ustr, (.unk .i64)] h0) (.bool true) = true := by kernel_rfl
theorem run2 : runIs (call PK2 200 (.func 7) [(I 2), .ustr, (.unk .i64)] h0) (.bool true) = true := by kernel_rfl
theorem run3 : runIs (call PK3 200 (.func 7) [(I 3), .ustr, (.unk .i64)] h0) (.bool true) = true := by kernel_rfl
theorem run4 : runIs (call PK4 200 (.func 7) [(I 4), .ustr, (.unk .i64)] h0) (.bool true) = true := by kernel_rfl
end Go.Proofs.YtjhionjmlcccjaaGreatDoor.Ev
