/- The kernel runs the law over known calls: part 2. -/
import Derived.Test.YtjhionjmlcccjaaGreatDoorPkN
import Derived.KernelRfl
namespace Go.Proofs.YtjhionjmlcccjaaGreatDoor.Ev
open Go Go.Proofs
set_option maxRecDepth 1000000
set_option linter.unusedVariables false
set_option linter.unusedSimpArgs false
theorem run10 : runIs (call PK10 200 (.func 7) [(I 10), .ustr, (.unk .i64)] h0) (.bool true) = true := by kernel_rfl
theorem run11 : runIs (call PK11 200 (.func 7) [(I 11), .ustr, (.unk .i64)] h0) (.bool true) = true := by kernel_rfl
theorem run12 : runIs (call PK12 200 (.func 7) [(I 12), .ustr, (.unk .i64)] h0) (.bool true) = true := by kernel_rfl
theorem run13 : runIs (call PK13 200 (.func 7) [(I 13), .ustr, (.unk .i64)] h0) (.bool true) = true := by kernel_rfl
theorem run14 : runIs (call PK14 200 (.func 7) [(.rng .i64 (some (14)) none), .ustr, (.unk .i64)] h0) (.bool true) = true := by kernel_rfl
end Go.Proofs.YtjhionjmlcccjaaGreatDoor.Ev
