/- The kernel runs calls: part 1. -/
import Derived.Test.YtcbacbfjjahcbaaGreatDoorPkB
import Derived.KernelRfl
namespace Go.Proofs.YtcbacbfjjahcbaaGreatDoor.Ev
open Go Go.Proofs
set_option maxRecDepth 1000000
set_option linter.unusedVariables false
set_option linter.unusedSimpArgs false
theorem cr8 : runCov cp8.v cp8.hout (call PP4 200 (.func 18) cp8.args cp8.hin) = true := by kernel_rfl
theorem cr9 : runCov cp9.v cp9.hout (call PP4 200 (.func 18) cp9.args cp9.hin) = true := by kernel_rfl
theorem cr11 : runCov cp11.v cp11.hout (call PP4 200 (.func 18) cp11.args cp11.hin) = true := by kernel_rfl
theorem cr12 : runCov cp12.v cp12.hout (call PP4 200 (.func 18) cp12.args cp12.hin) = true := by kernel_rfl
theorem cr13 : runCov cp13.v cp13.hout (call PP4 200 (.func 18) cp13.args cp13.hin) = true := by kernel_rfl
end Go.Proofs.YtcbacbfjjahcbaaGreatDoor.Ev
