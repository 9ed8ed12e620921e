/- The kernel runs calls: part 16. -/
import Derived.Test.YtcbacbfjjahcbaaGreatDoorPkC
import Derived.KernelRfl
namespace Go.Proofs.YtcbacbfjjahcbaaGreatDoor.Ev
open Go Go.Proofs
set_option maxRecDepth 1000000
set_option linter.unusedVariables false
set_option linter.unusedSimpArgs false
theorem cr63 : runCov cp63.v cp63.hout (call PP4 200 (.func 18) cp63.args cp63.hin) = true := by kernel_rfl
theorem cr78 : runCov cp78.v cp78.hout (call PP4 200 (.func 18) cp78.args cp78.hin) = true := by kernel_rfl
theorem cr10 : runCov cp10.v cp10.hout (call PP4 200 (.func 18) cp10.args cp10.hin) = true := by kernel_rfl
theorem cr17 : runCov cp17.v cp17.hout (call PL5 200 (.func 133) cp17.args cp17.hin) = true := by kernel_rfl
theorem cr8 : runCov cp8.v cp8.hout (call PP4 200 (.func 18) cp8.args cp8.hin) = true := by kernel_rfl
theorem cr15 : runCov cp15.v cp15.hout (call PL4 200 (.func 133) cp15.args cp15.hin) = true := by kernel_rfl
theorem cr104 : runCov cp104.v cp104.hout (call PP4 200 (.func 18) cp104.args cp104.hin) = true := by kernel_rfl
theorem cr112 : runCov cp112.v cp112.hout (call PL19 200 (.func 133) cp112.args cp112.hin) = true := by kernel_rfl
theorem cr58 : runCov cp58.v cp58.hout (call PL7 200 (.func 133) cp58.args cp58.hin) = true := by kernel_rfl
theorem cr87 : runCov cp87.v cp87.hout (call PL14 200 (.func 133) cp87.args cp87.hin) = true := by kernel_rfl
theorem cr3 : runCov cp3.v cp3.hout (call PL1 200 (.func 133) cp3.args cp3.hin) = true := by kernel_rfl
theorem cr7 : runCov cp7.v cp7.hout (call PL2 200 (.func 133) cp7.args cp7.hin) = true := by kernel_rfl
theorem cr1 : runCov cp1.v cp1.hout (call PL0 200 (.func 133) cp1.args cp1.hin) = true := by kernel_rfl
theorem cr115 : runCov cp115.v cp115.hout (call PP4 200 (.func 18) cp115.args cp115.hin) = true := by kernel_rfl
theorem cr31 : runCov cp31.v cp31.hout (call PL6 200 (.func 133) cp31.args cp31.hin) = true := by kernel_rfl
theorem cr75 : runCov cp75.v cp75.hout (call PP4 200 (.func 18) cp75.args cp75.hin) = true := by kernel_rfl
theorem cr83 : runCov cp83.v cp83.hout (call PP4 200 (.func 18) cp83.args cp83.hin) = true := by kernel_rfl
theorem cr127 : runCov cp127.v cp127.hout (call PP4 200 (.func 18) cp127.args cp127.hin) = true := by kernel_rfl
theorem cr106 : runCov cp106.v cp106.hout (call PP4 200 (.func 18) cp106.args cp106.hin) = true := by kernel_rfl
theorem cr48 : runCov cp48.v cp48.hout (call PP4 200 (.func 18) cp48.args cp48.hin) = true := by kernel_rfl
theorem cr57 : runCov cp57.v cp57.hout (call PP4 200 (.func 18) cp57.args cp57.hin) = true := by kernel_rfl
theorem cr27 : runCov cp27.v cp27.hout (call PP4 200 (.func 18) cp27.args cp27.hin) = true := by kernel_rfl
theorem cr55 : runCov cp55.v cp55.hout (call PP4 200 (.func 18) cp55.args cp55.hin) = true := by kernel_rfl
theorem cr41 : runCov cp41.v cp41.hout (call PP4 200 (.func 18) cp41.args cp41.hin) = true := by kernel_rfl
theorem cr25 : runCov cp25.v cp25.hout (call PP4 200 (.func 18) cp25.args cp25.hin) = true := by kernel_rfl
theorem cr80 : runCov cp80.v cp80.hout (call PP4 200 (.func 18) cp80.args cp80.hin) = true := by kernel_rfl
theorem crk11_1 : runCov ck11_1.v ck11_1.hout (call PP3 200 (.func 195) ck11_1.args ck11_1.hin) = true := by kernel_rfl
end Go.Proofs.YtcbacbfjjahcbaaGreatDoor.Ev
