/- The kernel runs calls: part 12. -/
import Derived.Test.YtjhionjmlcccjaaGreatDoorPkF
import Derived.KernelRfl
namespace Go.Proofs.YtjhionjmlcccjaaGreatDoor.Ev
open Go Go.Proofs
set_option maxRecDepth 1000000
set_option linter.unusedVariables false
set_option linter.unusedSimpArgs false
theorem cr120 : runCov cp120.v cp120.hout (call PP4 200 (.func 13) cp120.args cp120.hin) = true := by kernel_rfl
theorem cr121 : runCov cp121.v cp121.hout (call PP4 200 (.func 13) cp121.args cp121.hin) = true := by kernel_rfl
theorem cr122 : runCov cp122.v cp122.hout (call PP4 200 (.func 13) cp122.args cp122.hin) = true := by kernel_rfl
theorem cr123 : runCov cp123.v cp123.hout (call PP4 200 (.func 13) cp123.args cp123.hin) = true := by kernel_rfl
theorem cr124 : runCov cp124.v cp124.hout (call PP4 200 (.func 13) cp124.args cp124.hin) = true := by kernel_rfl
theorem cr125 : runCov cp125.v cp125.hout (call PP4 200 (.func 13) cp125.args cp125.hin) = true := by kernel_rfl
theorem cr126 : runCov cp126.v cp126.hout (call PP4 200 (.func 13) cp126.args cp126.hin) = true := by kernel_rfl
theorem cr127 : runCov cp127.v cp127.hout (call PP4 200 (.func 13) cp127.args cp127.hin) = true := by kernel_rfl
theorem cr128 : runCov cp128.v cp128.hout (call PP4 200 (.func 13) cp128.args cp128.hin) = true := by kernel_rfl
theorem cr129 : runCov cp129.v cp129.hout (call PP4 200 (.func 13) cp129.args cp129.hin) = true := by kernel_rfl
end Go.Proofs.YtjhionjmlcccjaaGreatDoor.Ev
