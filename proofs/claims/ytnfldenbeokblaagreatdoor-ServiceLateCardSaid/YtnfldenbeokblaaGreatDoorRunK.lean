/- The kernel runs some small functions at what they are asked. -/
import Derived.Test.YtnfldenbeokblaaGreatDoorPg
import Derived.KernelRfl
namespace Go.Proofs.YtnfldenbeokblaaGreatDoor.Ev
open Go Go.Proofs
set_option maxRecDepth 1000000
theorem runV0 : runIs (call PP1 200 (.func 157) [.str 1384410336324] h0) (.bool true) = true := by kernel_rfl
theorem runL0 : runIs (call PP1 200 (.func 232) [.int .u64 1] h0) (.int .i64 1) = true := by kernel_rfl
theorem runL1 : runIs (call PP1 200 (.func 232) [.int .u64 2] h0) (.int .i64 2) = true := by kernel_rfl
theorem runL2 : runIs (call PP1 200 (.func 232) [.int .u64 0] h0) (.int .i64 0) = true := by kernel_rfl
theorem runC0 : runIs (call PP1 200 (.func 43) [.nilSlice] h0) (.nilSlice) = true := by kernel_rfl
theorem runE0 : runIs (call PP1 200 (.func 42) [.nilSlice] h0) (.nilSlice) = true := by kernel_rfl
theorem runD0 : runIs (call PP1 200 (.func 188) [.str 1384410336324] h0) (.str 1) = true := by kernel_rfl
theorem runN0 : runIs (call PP1 200 (.func 436) [.str 1384410336324, .str 303] h0) (.int .i64 0) = true := by kernel_rfl
theorem runB0 : runIs (call PP1 200 (.func 158) [.str 1384410336324, .str 303] h0) (.bool false) = true := by kernel_rfl
end Go.Proofs.YtnfldenbeokblaaGreatDoor.Ev
