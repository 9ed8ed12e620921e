/- The variables that the functions name. -/
import Derived.Test.YtcbacbfjjahcbaaGreatDoorFaC
import Derived.Test.YtcbacbfjjahcbaaGreatDoorFbC
namespace Go.Proofs.YtcbacbfjjahcbaaGreatDoor
open Go
set_option maxRecDepth 1000000
theorem cloC' : Tryz.prog.closure 3 = clCL := by
  unfold Program.closure
  rw [fuelC]
  exact cloViaC
theorem namC : (Rows.serviceConflictsRow.named == Tryz.prog.varsNamed 3) = true := by
  unfold Program.varsNamed
  rw [cloC']
  kernel_rfl
end Go.Proofs.YtcbacbfjjahcbaaGreatDoor
