/- The kernel runs calls: part 10. -/
import Derived.Test.YtjhionjmlcccjaaGreatDoorPkF
import Derived.KernelRfl
namespace Go.Proofs.YtjhionjmlcccjaaGreatDoor.Ev
open Go Go.Proofs
set_option maxRecDepth 1000000
set_option linter.unusedVariables false
set_option linter.unusedSimpArgs false
theorem cr100 : runCov cp100.v cp100.hout (call PP4 200 (.func 13) cp100.args cp100.hin) = true := by kernel_rfl
theorem cr101 : runCov cp101.v cp101.hout (call PP4 200 (.func 13) cp101.args cp101.hin) = true := by kernel_rfl
theorem cr102 : runCov cp102.v cp102.hout (call PP4 200 (.func 13) cp102.args cp102.hin) = true := by kernel_rfl
theorem cr103 : runCov cp103.v cp103.hout (call PP4 200 (.func 13) cp103.args cp103.hin) = true := by kernel_rfl
theorem cr104 : runCov cp104.v cp104.hout (call PP4 200 (.func 13) cp104.args cp104.hin) = true := by kernel_rfl
theorem cr105 : runCov cp105.v cp105.hout (call PP4 200 (.func 13) cp105.args cp105.hin) = true := by kernel_rfl
theorem cr106 : runCov cp106.v cp106.hout (call PP4 200 (.func 13) cp106.args cp106.hin) = true := by kernel_rfl
theorem cr107 : runCov cp107.v cp107.hout (call PP4 200 (.func 13) cp107.args cp107.hin) = true := by kernel_rfl
theorem cr108 : runCov cp108.v cp108.hout (call PP4 200 (.func 13) cp108.args cp108.hin) = true := by kernel_rfl
theorem cr109 : runCov cp109.v cp109.hout (call PP4 200 (.func 13) cp109.args cp109.hin) = true := by kernel_rfl
end Go.Proofs.YtjhionjmlcccjaaGreatDoor.Ev
