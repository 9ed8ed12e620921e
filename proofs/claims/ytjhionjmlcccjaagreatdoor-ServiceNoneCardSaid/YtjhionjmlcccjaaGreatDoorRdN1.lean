/- The kernel runs the law over known calls: part 1. -/
import Derived.Test.YtjhionjmlcccjaaGreatDoorPkN
import Derived.KernelRfl
namespace Go.Proofs.YtjhionjmlcccjaaGreatDoor.Ev
open Go Go.Proofs
set_option maxRecDepth 1000000
set_option linter.unusedVariables false
set_option linter.unusedSimpArgs false
theorem run5 : runIs (call PK5 200 (.func 7) [(I 5), .ustr, (.unk .i64)] h0) (.bool true) = true := by kernel_rfl
theorem run6 : runIs (call PK6 200 (.func 7) [(I 6), .ustr, (.unk .i64)] h0) (.bool true) = true := by kernel_rfl
theorem run7 : runIs (call PK7 200 (.func 7) [(I 7), .ustr, (.unk .i64)] h0) (.bool true) = true := by kernel_rfl
theorem run8 : runIs (call PK8 200 (.func 7) [(I 8), .ustr, (.unk .i64)] h0) (.bool true) = true := by kernel_rfl
theorem run9 : runIs (call PK9 200 (.func 7) [(I 9), .ustr, (.unk .i64)] h0) (.bool true) = true := by kernel_rfl
end Go.Proofs.YtjhionjmlcccjaaGreatDoor.Ev
