/- The kernel runs some small functions at what they are asked. -/
import Derived.Test.YtcbacbfjjahcbaaGreatDoorPg
import Derived.KernelRfl
namespace Go.Proofs.YtcbacbfjjahcbaaGreatDoor.Ev
open Go Go.Proofs
set_option maxRecDepth 1000000
set_option linter.unusedVariables false
set_option linter.unusedSimpArgs false
theorem runP0 : runIs (call PP1 200 (.func 171) [(.str 353), (.str 354)] h0) ((.bool true)) = true := by kernel_rfl
theorem runP1 : runIs (call PP1 200 (.func 171) [(.str 353), (.str 355)] h0) ((.bool true)) = true := by kernel_rfl
theorem runP2 : runIs (call PP1 200 (.func 171) [(.str 353), (.str 368711370625619)] h0) ((.bool false)) = true := by kernel_rfl
theorem runP3 : runIs (call PP1 200 (.func 171) [(.str 354), (.str 353)] h0) ((.bool false)) = true := by kernel_rfl
theorem runP4 : runIs (call PP1 200 (.func 171) [(.str 354), (.str 355)] h0) ((.bool true)) = true := by kernel_rfl
theorem runP5 : runIs (call PP1 200 (.func 171) [(.str 354), (.str 368711370625619)] h0) ((.bool false)) = true := by kernel_rfl
theorem runP6 : runIs (call PP1 200 (.func 171) [(.str 355), (.str 353)] h0) ((.bool false)) = true := by kernel_rfl
theorem runP7 : runIs (call PP1 200 (.func 171) [(.str 355), (.str 354)] h0) ((.bool false)) = true := by kernel_rfl
theorem runP8 : runIs (call PP1 200 (.func 171) [(.str 355), (.str 368711370625619)] h0) ((.bool false)) = true := by kernel_rfl
theorem runP9 : runIs (call PP1 200 (.func 171) [(.str 368711370625619), (.str 353)] h0) ((.bool true)) = true := by kernel_rfl
theorem runP10 : runIs (call PP1 200 (.func 171) [(.str 368711370625619), (.str 354)] h0) ((.bool true)) = true := by kernel_rfl
theorem runP11 : runIs (call PP1 200 (.func 171) [(.str 368711370625619), (.str 355)] h0) ((.bool true)) = true := by kernel_rfl
theorem runQ0 : runIs (call PP1 200 (.func 193) [(.str 353)] h0) ((.str 1)) = true := by kernel_rfl
theorem runQ1 : runIs (call PP1 200 (.func 193) [(.str 354)] h0) ((.str 1)) = true := by kernel_rfl
theorem runQ2 : runIs (call PP1 200 (.func 193) [(.str 355)] h0) ((.str 1)) = true := by kernel_rfl
theorem runQ3 : runIs (call PP1 200 (.func 193) [(.str 368711370625619)] h0) ((.str 1)) = true := by kernel_rfl
theorem runQ4 : runIs (call PP1 200 (.func 193) [(.str 94769)] h0) ((.str 1)) = true := by kernel_rfl
theorem runX0 : runIs (call PP1 200 (.func 266) [(.agg [(.str 353), (.int .i64 4)]), (.agg [(.str 354), (.int .i64 4)])] h0) ((.int .i64 (-1))) = true := by kernel_rfl
theorem runX1 : runIs (call PP1 200 (.func 266) [(.agg [(.str 353), (.int .i64 4)]), (.agg [(.str 355), (.int .i64 4)])] h0) ((.int .i64 (-1))) = true := by kernel_rfl
theorem runX2 : runIs (call PP1 200 (.func 266) [(.agg [(.str 353), (.int .i64 4)]), (.agg [(.str 368711370625619), (.int .i64 2)])] h0) ((.int .i64 1)) = true := by kernel_rfl
theorem runX3 : runIs (call PP1 200 (.func 266) [(.agg [(.str 353), (.int .i64 8)]), (.agg [(.str 368711370625619), (.int .i64 2)])] h0) ((.int .i64 1)) = true := by kernel_rfl
theorem runX4 : runIs (call PP1 200 (.func 266) [(.agg [(.str 354), (.int .i64 10)]), (.agg [(.str 353), (.int .i64 4)])] h0) ((.int .i64 1)) = true := by kernel_rfl
theorem runX5 : runIs (call PP1 200 (.func 266) [(.agg [(.str 354), (.int .i64 10)]), (.agg [(.str 353), (.int .i64 8)])] h0) ((.int .i64 1)) = true := by kernel_rfl
theorem runX6 : runIs (call PP1 200 (.func 266) [(.agg [(.str 354), (.int .i64 4)]), (.agg [(.str 353), (.int .i64 4)])] h0) ((.int .i64 1)) = true := by kernel_rfl
theorem runX7 : runIs (call PP1 200 (.func 266) [(.agg [(.str 354), (.int .i64 4)]), (.agg [(.str 353), (.int .i64 8)])] h0) ((.int .i64 1)) = true := by kernel_rfl
theorem runX8 : runIs (call PP1 200 (.func 266) [(.agg [(.str 354), (.int .i64 4)]), (.agg [(.str 355), (.int .i64 4)])] h0) ((.int .i64 (-1))) = true := by kernel_rfl
theorem runX9 : runIs (call PP1 200 (.func 266) [(.agg [(.str 354), (.int .i64 4)]), (.agg [(.str 368711370625619), (.int .i64 2)])] h0) ((.int .i64 1)) = true := by kernel_rfl
theorem runX10 : runIs (call PP1 200 (.func 266) [(.agg [(.str 355), (.int .i64 13)]), (.agg [(.str 354), (.int .i64 10)])] h0) ((.int .i64 1)) = true := by kernel_rfl
theorem runX11 : runIs (call PP1 200 (.func 266) [(.agg [(.str 355), (.int .i64 13)]), (.agg [(.str 354), (.int .i64 4)])] h0) ((.int .i64 1)) = true := by kernel_rfl
theorem runX12 : runIs (call PP1 200 (.func 266) [(.agg [(.str 355), (.int .i64 4)]), (.agg [(.str 353), (.int .i64 4)])] h0) ((.int .i64 1)) = true := by kernel_rfl
theorem runX13 : runIs (call PP1 200 (.func 266) [(.agg [(.str 355), (.int .i64 4)]), (.agg [(.str 354), (.int .i64 10)])] h0) ((.int .i64 1)) = true := by kernel_rfl
theorem runX14 : runIs (call PP1 200 (.func 266) [(.agg [(.str 355), (.int .i64 4)]), (.agg [(.str 354), (.int .i64 4)])] h0) ((.int .i64 1)) = true := by kernel_rfl
theorem runX15 : runIs (call PP1 200 (.func 266) [(.agg [(.str 355), (.int .i64 4)]), (.agg [(.str 368711370625619), (.int .i64 2)])] h0) ((.int .i64 1)) = true := by kernel_rfl
theorem runX16 : runIs (call PP1 200 (.func 266) [(.agg [(.str 368711370625619), (.int .i64 2)]), (.agg [(.str 353), (.int .i64 4)])] h0) ((.int .i64 (-1))) = true := by kernel_rfl
theorem runX17 : runIs (call PP1 200 (.func 266) [(.agg [(.str 368711370625619), (.int .i64 2)]), (.agg [(.str 354), (.int .i64 4)])] h0) ((.int .i64 (-1))) = true := by kernel_rfl
theorem runX18 : runIs (call PP1 200 (.func 266) [(.agg [(.str 368711370625619), (.int .i64 2)]), (.agg [(.str 355), (.int .i64 4)])] h0) ((.int .i64 (-1))) = true := by kernel_rfl
theorem runY0 : runIs (call PP1 200 (.func 322) [(.agg [(.str 353), (.bool false), (.int .i64 4)]), (.agg [(.str 354), (.bool false), (.int .i64 10)])] h0) ((.int .i64 (-1))) = true := by kernel_rfl
theorem runY1 : runIs (call PP1 200 (.func 322) [(.agg [(.str 353), (.bool false), (.int .i64 4)]), (.agg [(.str 354), (.bool false), (.int .i64 4)])] h0) ((.int .i64 (-1))) = true := by kernel_rfl
theorem runY2 : runIs (call PP1 200 (.func 322) [(.agg [(.str 353), (.bool false), (.int .i64 4)]), (.agg [(.str 355), (.bool false), (.int .i64 13)])] h0) ((.int .i64 (-1))) = true := by kernel_rfl
theorem runY3 : runIs (call PP1 200 (.func 322) [(.agg [(.str 353), (.bool false), (.int .i64 4)]), (.agg [(.str 355), (.bool false), (.int .i64 4)])] h0) ((.int .i64 (-1))) = true := by kernel_rfl
theorem runY4 : runIs (call PP1 200 (.func 322) [(.agg [(.str 353), (.bool false), (.int .i64 4)]), (.agg [(.str 368711370625619), (.bool false), (.int .i64 2)])] h0) ((.int .i64 1)) = true := by kernel_rfl
theorem runY5 : runIs (call PP1 200 (.func 322) [(.agg [(.str 353), (.bool false), (.int .i64 8)]), (.agg [(.str 354), (.bool false), (.int .i64 10)])] h0) ((.int .i64 (-1))) = true := by kernel_rfl
theorem runY6 : runIs (call PP1 200 (.func 322) [(.agg [(.str 353), (.bool false), (.int .i64 8)]), (.agg [(.str 354), (.bool false), (.int .i64 4)])] h0) ((.int .i64 (-1))) = true := by kernel_rfl
theorem runY7 : runIs (call PP1 200 (.func 322) [(.agg [(.str 353), (.bool false), (.int .i64 8)]), (.agg [(.str 355), (.bool false), (.int .i64 13)])] h0) ((.int .i64 (-1))) = true := by kernel_rfl
theorem runY8 : runIs (call PP1 200 (.func 322) [(.agg [(.str 353), (.bool false), (.int .i64 8)]), (.agg [(.str 355), (.bool false), (.int .i64 4)])] h0) ((.int .i64 (-1))) = true := by kernel_rfl
theorem runY9 : runIs (call PP1 200 (.func 322) [(.agg [(.str 353), (.bool false), (.int .i64 8)]), (.agg [(.str 368711370625619), (.bool false), (.int .i64 2)])] h0) ((.int .i64 1)) = true := by kernel_rfl
theorem runY10 : runIs (call PP1 200 (.func 322) [(.agg [(.str 354), (.bool false), (.int .i64 10)]), (.agg [(.str 353), (.bool false), (.int .i64 4)])] h0) ((.int .i64 1)) = true := by kernel_rfl
theorem runY11 : runIs (call PP1 200 (.func 322) [(.agg [(.str 354), (.bool false), (.int .i64 10)]), (.agg [(.str 353), (.bool false), (.int .i64 8)])] h0) ((.int .i64 1)) = true := by kernel_rfl
theorem runY12 : runIs (call PP1 200 (.func 322) [(.agg [(.str 354), (.bool false), (.int .i64 10)]), (.agg [(.str 355), (.bool false), (.int .i64 13)])] h0) ((.int .i64 (-1))) = true := by kernel_rfl
theorem runY13 : runIs (call PP1 200 (.func 322) [(.agg [(.str 354), (.bool false), (.int .i64 10)]), (.agg [(.str 355), (.bool false), (.int .i64 4)])] h0) ((.int .i64 (-1))) = true := by kernel_rfl
theorem runY14 : runIs (call PP1 200 (.func 322) [(.agg [(.str 354), (.bool false), (.int .i64 10)]), (.agg [(.str 368711370625619), (.bool false), (.int .i64 2)])] h0) ((.int .i64 1)) = true := by kernel_rfl
theorem runY15 : runIs (call PP1 200 (.func 322) [(.agg [(.str 354), (.bool false), (.int .i64 4)]), (.agg [(.str 353), (.bool false), (.int .i64 4)])] h0) ((.int .i64 1)) = true := by kernel_rfl
theorem runY16 : runIs (call PP1 200 (.func 322) [(.agg [(.str 354), (.bool false), (.int .i64 4)]), (.agg [(.str 353), (.bool false), (.int .i64 8)])] h0) ((.int .i64 1)) = true := by kernel_rfl
theorem runY17 : runIs (call PP1 200 (.func 322) [(.agg [(.str 354), (.bool false), (.int .i64 4)]), (.agg [(.str 355), (.bool false), (.int .i64 13)])] h0) ((.int .i64 (-1))) = true := by kernel_rfl
theorem runY18 : runIs (call PP1 200 (.func 322) [(.agg [(.str 354), (.bool false), (.int .i64 4)]), (.agg [(.str 355), (.bool false), (.int .i64 4)])] h0) ((.int .i64 (-1))) = true := by kernel_rfl
theorem runY19 : runIs (call PP1 200 (.func 322) [(.agg [(.str 354), (.bool false), (.int .i64 4)]), (.agg [(.str 368711370625619), (.bool false), (.int .i64 2)])] h0) ((.int .i64 1)) = true := by kernel_rfl
theorem runY20 : runIs (call PP1 200 (.func 322) [(.agg [(.str 355), (.bool false), (.int .i64 13)]), (.agg [(.str 353), (.bool false), (.int .i64 4)])] h0) ((.int .i64 1)) = true := by kernel_rfl
theorem runY21 : runIs (call PP1 200 (.func 322) [(.agg [(.str 355), (.bool false), (.int .i64 13)]), (.agg [(.str 353), (.bool false), (.int .i64 8)])] h0) ((.int .i64 1)) = true := by kernel_rfl
theorem runY22 : runIs (call PP1 200 (.func 322) [(.agg [(.str 355), (.bool false), (.int .i64 13)]), (.agg [(.str 354), (.bool false), (.int .i64 10)])] h0) ((.int .i64 1)) = true := by kernel_rfl
theorem runY23 : runIs (call PP1 200 (.func 322) [(.agg [(.str 355), (.bool false), (.int .i64 13)]), (.agg [(.str 354), (.bool false), (.int .i64 4)])] h0) ((.int .i64 1)) = true := by kernel_rfl
theorem runY24 : runIs (call PP1 200 (.func 322) [(.agg [(.str 355), (.bool false), (.int .i64 13)]), (.agg [(.str 368711370625619), (.bool false), (.int .i64 2)])] h0) ((.int .i64 1)) = true := by kernel_rfl
theorem runY25 : runIs (call PP1 200 (.func 322) [(.agg [(.str 355), (.bool false), (.int .i64 4)]), (.agg [(.str 353), (.bool false), (.int .i64 4)])] h0) ((.int .i64 1)) = true := by kernel_rfl
theorem runY26 : runIs (call PP1 200 (.func 322) [(.agg [(.str 355), (.bool false), (.int .i64 4)]), (.agg [(.str 353), (.bool false), (.int .i64 8)])] h0) ((.int .i64 1)) = true := by kernel_rfl
theorem runY27 : runIs (call PP1 200 (.func 322) [(.agg [(.str 355), (.bool false), (.int .i64 4)]), (.agg [(.str 354), (.bool false), (.int .i64 10)])] h0) ((.int .i64 1)) = true := by kernel_rfl
theorem runY28 : runIs (call PP1 200 (.func 322) [(.agg [(.str 355), (.bool false), (.int .i64 4)]), (.agg [(.str 354), (.bool false), (.int .i64 4)])] h0) ((.int .i64 1)) = true := by kernel_rfl
theorem runY29 : runIs (call PP1 200 (.func 322) [(.agg [(.str 355), (.bool false), (.int .i64 4)]), (.agg [(.str 368711370625619), (.bool false), (.int .i64 2)])] h0) ((.int .i64 1)) = true := by kernel_rfl
theorem runY30 : runIs (call PP1 200 (.func 322) [(.agg [(.str 368711370625619), (.bool false), (.int .i64 2)]), (.agg [(.str 353), (.bool false), (.int .i64 4)])] h0) ((.int .i64 (-1))) = true := by kernel_rfl
theorem runY31 : runIs (call PP1 200 (.func 322) [(.agg [(.str 368711370625619), (.bool false), (.int .i64 2)]), (.agg [(.str 353), (.bool false), (.int .i64 8)])] h0) ((.int .i64 (-1))) = true := by kernel_rfl
theorem runY32 : runIs (call PP1 200 (.func 322) [(.agg [(.str 368711370625619), (.bool false), (.int .i64 2)]), (.agg [(.str 354), (.bool false), (.int .i64 10)])] h0) ((.int .i64 (-1))) = true := by kernel_rfl
theorem runY33 : runIs (call PP1 200 (.func 322) [(.agg [(.str 368711370625619), (.bool false), (.int .i64 2)]), (.agg [(.str 354), (.bool false), (.int .i64 4)])] h0) ((.int .i64 (-1))) = true := by kernel_rfl
theorem runY34 : runIs (call PP1 200 (.func 322) [(.agg [(.str 368711370625619), (.bool false), (.int .i64 2)]), (.agg [(.str 355), (.bool false), (.int .i64 13)])] h0) ((.int .i64 (-1))) = true := by kernel_rfl
theorem runY35 : runIs (call PP1 200 (.func 322) [(.agg [(.str 368711370625619), (.bool false), (.int .i64 2)]), (.agg [(.str 355), (.bool false), (.int .i64 4)])] h0) ((.int .i64 (-1))) = true := by kernel_rfl
end Go.Proofs.YtcbacbfjjahcbaaGreatDoor.Ev
