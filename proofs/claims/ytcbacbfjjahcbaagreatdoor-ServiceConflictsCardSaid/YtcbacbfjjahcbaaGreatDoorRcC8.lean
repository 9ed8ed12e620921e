/- The kernel runs calls: part 8. -/
import Derived.Test.YtcbacbfjjahcbaaGreatDoorPkC
import Derived.KernelRfl
namespace Go.Proofs.YtcbacbfjjahcbaaGreatDoor.Ev
open Go Go.Proofs
set_option maxRecDepth 1000000
set_option linter.unusedVariables false
set_option linter.unusedSimpArgs false
theorem cfr18_4 : runsPT PP3 198 pt18_4 = true := by kernel_rfl
theorem cfr16_4 : runsPT PP3 198 pt16_4 = true := by kernel_rfl
noncomputable def PP4s : Pg := { PP4 with frs := PP4.frs.put 133 (cp110 :: clO) }
theorem cr111 : runCov cp111.v cp111.hout (call PP4s 200 (.func 18) cp111.args cp111.hin) = true := by kernel_rfl
theorem cr108 : runCov cp108.v cp108.hout (call PP4 200 (.func 18) cp108.args cp108.hin) = true := by kernel_rfl
end Go.Proofs.YtcbacbfjjahcbaaGreatDoor.Ev
