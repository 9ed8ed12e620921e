/- The kernel runs some small functions at what they are asked. -/
import Derived.Test.YtcbacbfjjahcbaaGreatDoorPg
import Derived.KernelRfl
namespace Go.Proofs.YtcbacbfjjahcbaaGreatDoor.Ev
open Go Go.Proofs
set_option maxRecDepth 1000000
set_option linter.unusedVariables false
set_option linter.unusedSimpArgs false
theorem runP0 : runIs (call PP1 200 (.func 171) [(.str 26531038841761516612), (.str 26531320316738227268)] h0) ((.bool true)) = true := by kernel_rfl
theorem runP1 : runIs (call PP1 200 (.func 171) [(.str 26531038841761516612), (.str 358)] h0) ((.bool false)) = true := by kernel_rfl
theorem runP2 : runIs (call PP1 200 (.func 171) [(.str 26531038841761516612), (.str 6177238899)] h0) ((.bool true)) = true := by kernel_rfl
theorem runP3 : runIs (call PP1 200 (.func 171) [(.str 26531038841761516612), (.str 6177304435)] h0) ((.bool true)) = true := by kernel_rfl
theorem runP4 : runIs (call PP1 200 (.func 171) [(.str 26531320316738227268), (.str 26531038841761516612)] h0) ((.bool false)) = true := by kernel_rfl
theorem runP5 : runIs (call PP1 200 (.func 171) [(.str 26531320316738227268), (.str 358)] h0) ((.bool false)) = true := by kernel_rfl
theorem runP6 : runIs (call PP1 200 (.func 171) [(.str 26531320316738227268), (.str 6177238899)] h0) ((.bool false)) = true := by kernel_rfl
theorem runP7 : runIs (call PP1 200 (.func 171) [(.str 26531320316738227268), (.str 6177304435)] h0) ((.bool true)) = true := by kernel_rfl
theorem runP8 : runIs (call PP1 200 (.func 171) [(.str 26531601791714937924), (.str 6177238899)] h0) ((.bool false)) = true := by kernel_rfl
theorem runP9 : runIs (call PP1 200 (.func 171) [(.str 26531601791714937924), (.str 6177304435)] h0) ((.bool false)) = true := by kernel_rfl
theorem runP10 : runIs (call PP1 200 (.func 171) [(.str 26531601791714937924), (.str 6177369971)] h0) ((.bool true)) = true := by kernel_rfl
theorem runP11 : runIs (call PP1 200 (.func 171) [(.str 358), (.str 26531038841761516612)] h0) ((.bool true)) = true := by kernel_rfl
theorem runP12 : runIs (call PP1 200 (.func 171) [(.str 358), (.str 26531320316738227268)] h0) ((.bool true)) = true := by kernel_rfl
theorem runP13 : runIs (call PP1 200 (.func 171) [(.str 358), (.str 6177238899)] h0) ((.bool true)) = true := by kernel_rfl
theorem runP14 : runIs (call PP1 200 (.func 171) [(.str 358), (.str 6177304435)] h0) ((.bool true)) = true := by kernel_rfl
theorem runP15 : runIs (call PP1 200 (.func 171) [(.str 6177238899), (.str 26531038841761516612)] h0) ((.bool false)) = true := by kernel_rfl
theorem runP16 : runIs (call PP1 200 (.func 171) [(.str 6177238899), (.str 26531320316738227268)] h0) ((.bool true)) = true := by kernel_rfl
theorem runP17 : runIs (call PP1 200 (.func 171) [(.str 6177238899), (.str 358)] h0) ((.bool false)) = true := by kernel_rfl
theorem runP18 : runIs (call PP1 200 (.func 171) [(.str 6177238899), (.str 6177304435)] h0) ((.bool true)) = true := by kernel_rfl
theorem runP19 : runIs (call PP1 200 (.func 171) [(.str 6177304435), (.str 26531038841761516612)] h0) ((.bool false)) = true := by kernel_rfl
theorem runP20 : runIs (call PP1 200 (.func 171) [(.str 6177304435), (.str 26531320316738227268)] h0) ((.bool false)) = true := by kernel_rfl
theorem runP21 : runIs (call PP1 200 (.func 171) [(.str 6177304435), (.str 358)] h0) ((.bool false)) = true := by kernel_rfl
theorem runP22 : runIs (call PP1 200 (.func 171) [(.str 6177304435), (.str 6177238899)] h0) ((.bool false)) = true := by kernel_rfl
theorem runP23 : runIs (call PP1 200 (.func 171) [(.str 6177369971), (.str 26531601791714937924)] h0) ((.bool false)) = true := by kernel_rfl
theorem runP24 : runIs (call PP1 200 (.func 171) [(.str 6177369971), (.str 6177238899)] h0) ((.bool false)) = true := by kernel_rfl
theorem runP25 : runIs (call PP1 200 (.func 171) [(.str 6177369971), (.str 6177304435)] h0) ((.bool false)) = true := by kernel_rfl
theorem runP26 : runIs (call PP1 200 (.func 171) [(.str 94258), (.str 94257)] h0) ((.bool false)) = true := by kernel_rfl
theorem runP27 : runIs (call PP1 200 (.func 171) [(.str 94259), (.str 94257)] h0) ((.bool false)) = true := by kernel_rfl
theorem runP28 : runIs (call PP1 200 (.func 171) [(.str 94259), (.str 94258)] h0) ((.bool false)) = true := by kernel_rfl
theorem runQ0 : runIs (call PP1 200 (.func 193) [(.str 26531038841761516612)] h0) ((.str 94257)) = true := by kernel_rfl
theorem runQ1 : runIs (call PP1 200 (.func 193) [(.str 26531320316738227268)] h0) ((.str 94258)) = true := by kernel_rfl
theorem runQ2 : runIs (call PP1 200 (.func 193) [(.str 26531601791714937924)] h0) ((.str 94259)) = true := by kernel_rfl
theorem runQ3 : runIs (call PP1 200 (.func 193) [(.str 358)] h0) ((.str 1)) = true := by kernel_rfl
theorem runQ4 : runIs (call PP1 200 (.func 193) [(.str 6177238899)] h0) ((.str 94257)) = true := by kernel_rfl
theorem runQ5 : runIs (call PP1 200 (.func 193) [(.str 6177304435)] h0) ((.str 94258)) = true := by kernel_rfl
theorem runQ6 : runIs (call PP1 200 (.func 193) [(.str 6177369971)] h0) ((.str 94259)) = true := by kernel_rfl
theorem runQ7 : runIs (call PP1 200 (.func 193) [(.str 94257)] h0) ((.str 1)) = true := by kernel_rfl
theorem runQ8 : runIs (call PP1 200 (.func 193) [(.str 94258)] h0) ((.str 1)) = true := by kernel_rfl
theorem runQ9 : runIs (call PP1 200 (.func 193) [(.str 94259)] h0) ((.str 1)) = true := by kernel_rfl
theorem runX0 : runIs (call PP1 200 (.func 266) [(.agg [(.str 26531038841761516612), (.int .i64 2)]), (.agg [(.str 26531320316738227268), (.int .i64 2)])] h0) ((.int .i64 (-1))) = true := by kernel_rfl
theorem runX1 : runIs (call PP1 200 (.func 266) [(.agg [(.str 26531038841761516612), (.int .i64 2)]), (.agg [(.str 358), (.int .i64 8)])] h0) ((.int .i64 1)) = true := by kernel_rfl
theorem runX2 : runIs (call PP1 200 (.func 266) [(.agg [(.str 26531038841761516612), (.int .i64 2)]), (.agg [(.str 6177238899), (.int .i64 5)])] h0) ((.int .i64 (-1))) = true := by kernel_rfl
theorem runX3 : runIs (call PP1 200 (.func 266) [(.agg [(.str 26531038841761516612), (.int .i64 2)]), (.agg [(.str 6177304435), (.int .i64 11)])] h0) ((.int .i64 (-1))) = true := by kernel_rfl
theorem runX4 : runIs (call PP1 200 (.func 266) [(.agg [(.str 26531320316738227268), (.int .i64 2)]), (.agg [(.str 26531038841761516612), (.int .i64 2)])] h0) ((.int .i64 1)) = true := by kernel_rfl
theorem runX5 : runIs (call PP1 200 (.func 266) [(.agg [(.str 26531320316738227268), (.int .i64 2)]), (.agg [(.str 358), (.int .i64 8)])] h0) ((.int .i64 1)) = true := by kernel_rfl
theorem runX6 : runIs (call PP1 200 (.func 266) [(.agg [(.str 26531320316738227268), (.int .i64 2)]), (.agg [(.str 6177238899), (.int .i64 5)])] h0) ((.int .i64 1)) = true := by kernel_rfl
theorem runX7 : runIs (call PP1 200 (.func 266) [(.agg [(.str 26531320316738227268), (.int .i64 2)]), (.agg [(.str 6177304435), (.int .i64 11)])] h0) ((.int .i64 (-1))) = true := by kernel_rfl
theorem runX8 : runIs (call PP1 200 (.func 266) [(.agg [(.str 26531601791714937924), (.int .i64 2)]), (.agg [(.str 6177238899), (.int .i64 5)])] h0) ((.int .i64 1)) = true := by kernel_rfl
theorem runX9 : runIs (call PP1 200 (.func 266) [(.agg [(.str 26531601791714937924), (.int .i64 2)]), (.agg [(.str 6177304435), (.int .i64 11)])] h0) ((.int .i64 1)) = true := by kernel_rfl
theorem runX10 : runIs (call PP1 200 (.func 266) [(.agg [(.str 26531601791714937924), (.int .i64 2)]), (.agg [(.str 6177369971), (.int .i64 16)])] h0) ((.int .i64 (-1))) = true := by kernel_rfl
theorem runX11 : runIs (call PP1 200 (.func 266) [(.agg [(.str 26531601791714937924), (.int .i64 2)]), (.agg [(.str 6177369971), (.int .i64 17)])] h0) ((.int .i64 (-1))) = true := by kernel_rfl
theorem runX12 : runIs (call PP1 200 (.func 266) [(.agg [(.str 358), (.int .i64 14)]), (.agg [(.str 26531038841761516612), (.int .i64 2)])] h0) ((.int .i64 (-1))) = true := by kernel_rfl
theorem runX13 : runIs (call PP1 200 (.func 266) [(.agg [(.str 358), (.int .i64 14)]), (.agg [(.str 26531320316738227268), (.int .i64 2)])] h0) ((.int .i64 (-1))) = true := by kernel_rfl
theorem runX14 : runIs (call PP1 200 (.func 266) [(.agg [(.str 358), (.int .i64 14)]), (.agg [(.str 358), (.int .i64 8)])] h0) ((.int .i64 6)) = true := by kernel_rfl
theorem runX15 : runIs (call PP1 200 (.func 266) [(.agg [(.str 358), (.int .i64 14)]), (.agg [(.str 6177238899), (.int .i64 5)])] h0) ((.int .i64 (-1))) = true := by kernel_rfl
theorem runX16 : runIs (call PP1 200 (.func 266) [(.agg [(.str 358), (.int .i64 14)]), (.agg [(.str 6177304435), (.int .i64 11)])] h0) ((.int .i64 (-1))) = true := by kernel_rfl
theorem runX17 : runIs (call PP1 200 (.func 266) [(.agg [(.str 358), (.int .i64 8)]), (.agg [(.str 26531038841761516612), (.int .i64 2)])] h0) ((.int .i64 (-1))) = true := by kernel_rfl
theorem runX18 : runIs (call PP1 200 (.func 266) [(.agg [(.str 358), (.int .i64 8)]), (.agg [(.str 26531320316738227268), (.int .i64 2)])] h0) ((.int .i64 (-1))) = true := by kernel_rfl
theorem runX19 : runIs (call PP1 200 (.func 266) [(.agg [(.str 358), (.int .i64 8)]), (.agg [(.str 358), (.int .i64 8)])] h0) ((.int .i64 0)) = true := by kernel_rfl
theorem runX20 : runIs (call PP1 200 (.func 266) [(.agg [(.str 358), (.int .i64 8)]), (.agg [(.str 6177238899), (.int .i64 5)])] h0) ((.int .i64 (-1))) = true := by kernel_rfl
theorem runX21 : runIs (call PP1 200 (.func 266) [(.agg [(.str 358), (.int .i64 8)]), (.agg [(.str 6177304435), (.int .i64 11)])] h0) ((.int .i64 (-1))) = true := by kernel_rfl
theorem runX22 : runIs (call PP1 200 (.func 266) [(.agg [(.str 6177238899), (.int .i64 5)]), (.agg [(.str 26531038841761516612), (.int .i64 2)])] h0) ((.int .i64 1)) = true := by kernel_rfl
theorem runX23 : runIs (call PP1 200 (.func 266) [(.agg [(.str 6177238899), (.int .i64 5)]), (.agg [(.str 26531320316738227268), (.int .i64 2)])] h0) ((.int .i64 (-1))) = true := by kernel_rfl
theorem runX24 : runIs (call PP1 200 (.func 266) [(.agg [(.str 6177238899), (.int .i64 5)]), (.agg [(.str 358), (.int .i64 8)])] h0) ((.int .i64 1)) = true := by kernel_rfl
theorem runX25 : runIs (call PP1 200 (.func 266) [(.agg [(.str 6177238899), (.int .i64 5)]), (.agg [(.str 6177304435), (.int .i64 11)])] h0) ((.int .i64 (-1))) = true := by kernel_rfl
theorem runX26 : runIs (call PP1 200 (.func 266) [(.agg [(.str 6177304435), (.int .i64 11)]), (.agg [(.str 26531038841761516612), (.int .i64 2)])] h0) ((.int .i64 1)) = true := by kernel_rfl
theorem runX27 : runIs (call PP1 200 (.func 266) [(.agg [(.str 6177304435), (.int .i64 11)]), (.agg [(.str 26531320316738227268), (.int .i64 2)])] h0) ((.int .i64 1)) = true := by kernel_rfl
theorem runX28 : runIs (call PP1 200 (.func 266) [(.agg [(.str 6177304435), (.int .i64 11)]), (.agg [(.str 358), (.int .i64 8)])] h0) ((.int .i64 1)) = true := by kernel_rfl
theorem runX29 : runIs (call PP1 200 (.func 266) [(.agg [(.str 6177304435), (.int .i64 11)]), (.agg [(.str 6177238899), (.int .i64 5)])] h0) ((.int .i64 1)) = true := by kernel_rfl
theorem runX30 : runIs (call PP1 200 (.func 266) [(.agg [(.str 6177369971), (.int .i64 16)]), (.agg [(.str 26531601791714937924), (.int .i64 2)])] h0) ((.int .i64 1)) = true := by kernel_rfl
theorem runX31 : runIs (call PP1 200 (.func 266) [(.agg [(.str 6177369971), (.int .i64 16)]), (.agg [(.str 6177304435), (.int .i64 11)])] h0) ((.int .i64 1)) = true := by kernel_rfl
theorem runX32 : runIs (call PP1 200 (.func 266) [(.agg [(.str 6177369971), (.int .i64 17)]), (.agg [(.str 26531601791714937924), (.int .i64 2)])] h0) ((.int .i64 1)) = true := by kernel_rfl
theorem runX33 : runIs (call PP1 200 (.func 266) [(.agg [(.str 6177369971), (.int .i64 17)]), (.agg [(.str 6177238899), (.int .i64 5)])] h0) ((.int .i64 1)) = true := by kernel_rfl
theorem runX34 : runIs (call PP1 200 (.func 266) [(.agg [(.str 6177369971), (.int .i64 17)]), (.agg [(.str 6177304435), (.int .i64 11)])] h0) ((.int .i64 1)) = true := by kernel_rfl
theorem runY0 : runIs (call PP1 200 (.func 322) [(.agg [(.str 1384410336324), (.bool false), (.int .i64 2)]), (.agg [(.str 371), (.bool false), (.int .i64 11)])] h0) ((.int .i64 (-1))) = true := by kernel_rfl
theorem runY1 : runIs (call PP1 200 (.func 322) [(.agg [(.str 1384410336324), (.bool false), (.int .i64 2)]), (.agg [(.str 371), (.bool false), (.int .i64 16)])] h0) ((.int .i64 (-1))) = true := by kernel_rfl
theorem runY2 : runIs (call PP1 200 (.func 322) [(.agg [(.str 1384410336324), (.bool false), (.int .i64 2)]), (.agg [(.str 371), (.bool false), (.int .i64 17)])] h0) ((.int .i64 (-1))) = true := by kernel_rfl
theorem runY3 : runIs (call PP1 200 (.func 322) [(.agg [(.str 1384410336324), (.bool false), (.int .i64 2)]), (.agg [(.str 371), (.bool false), (.int .i64 5)])] h0) ((.int .i64 (-1))) = true := by kernel_rfl
theorem runY4 : runIs (call PP1 200 (.func 322) [(.agg [(.str 358), (.bool false), (.int .i64 8)]), (.agg [(.str 94257), (.bool true), (.int .i64 0)])] h0) ((.int .i64 (-1))) = true := by kernel_rfl
theorem runY5 : runIs (call PP1 200 (.func 322) [(.agg [(.str 358), (.bool false), (.int .i64 8)]), (.agg [(.str 94258), (.bool true), (.int .i64 0)])] h0) ((.int .i64 (-1))) = true := by kernel_rfl
theorem runY6 : runIs (call PP1 200 (.func 322) [(.agg [(.str 358), (.bool false), (.int .i64 8)]), (.agg [(.str 94259), (.bool true), (.int .i64 0)])] h0) ((.int .i64 (-1))) = true := by kernel_rfl
theorem runY7 : runIs (call PP1 200 (.func 322) [(.agg [(.str 371), (.bool false), (.int .i64 11)]), (.agg [(.str 1384410336324), (.bool false), (.int .i64 2)])] h0) ((.int .i64 1)) = true := by kernel_rfl
theorem runY8 : runIs (call PP1 200 (.func 322) [(.agg [(.str 371), (.bool false), (.int .i64 16)]), (.agg [(.str 1384410336324), (.bool false), (.int .i64 2)])] h0) ((.int .i64 1)) = true := by kernel_rfl
theorem runY9 : runIs (call PP1 200 (.func 322) [(.agg [(.str 371), (.bool false), (.int .i64 17)]), (.agg [(.str 1384410336324), (.bool false), (.int .i64 2)])] h0) ((.int .i64 1)) = true := by kernel_rfl
theorem runY10 : runIs (call PP1 200 (.func 322) [(.agg [(.str 371), (.bool false), (.int .i64 5)]), (.agg [(.str 1384410336324), (.bool false), (.int .i64 2)])] h0) ((.int .i64 1)) = true := by kernel_rfl
theorem runY11 : runIs (call PP1 200 (.func 322) [(.agg [(.str 94257), (.bool true), (.int .i64 0)]), (.agg [(.str 94258), (.bool true), (.int .i64 0)])] h0) ((.int .i64 (-1))) = true := by kernel_rfl
theorem runY12 : runIs (call PP1 200 (.func 322) [(.agg [(.str 94257), (.bool true), (.int .i64 0)]), (.agg [(.str 94259), (.bool true), (.int .i64 0)])] h0) ((.int .i64 (-1))) = true := by kernel_rfl
theorem runY13 : runIs (call PP1 200 (.func 322) [(.agg [(.str 94258), (.bool true), (.int .i64 0)]), (.agg [(.str 94257), (.bool true), (.int .i64 0)])] h0) ((.int .i64 1)) = true := by kernel_rfl
theorem runY14 : runIs (call PP1 200 (.func 322) [(.agg [(.str 94258), (.bool true), (.int .i64 0)]), (.agg [(.str 94259), (.bool true), (.int .i64 0)])] h0) ((.int .i64 (-1))) = true := by kernel_rfl
theorem runY15 : runIs (call PP1 200 (.func 322) [(.agg [(.str 94259), (.bool true), (.int .i64 0)]), (.agg [(.str 94257), (.bool true), (.int .i64 0)])] h0) ((.int .i64 1)) = true := by kernel_rfl
theorem runY16 : runIs (call PP1 200 (.func 322) [(.agg [(.str 94259), (.bool true), (.int .i64 0)]), (.agg [(.str 94258), (.bool true), (.int .i64 0)])] h0) ((.int .i64 1)) = true := by kernel_rfl
end Go.Proofs.YtcbacbfjjahcbaaGreatDoor.Ev
