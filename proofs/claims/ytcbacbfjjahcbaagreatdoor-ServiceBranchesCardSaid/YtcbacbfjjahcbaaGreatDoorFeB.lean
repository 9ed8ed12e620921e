/- The variables that the functions name. -/
import Derived.Test.YtcbacbfjjahcbaaGreatDoorFaB
import Derived.Test.YtcbacbfjjahcbaaGreatDoorFbB
namespace Go.Proofs.YtcbacbfjjahcbaaGreatDoor
open Go
set_option maxRecDepth 1000000
theorem cloB' : Tryz.prog.closure 4 = clBL := by
  unfold Program.closure
  rw [fuelB]
  exact cloViaB
theorem namB : (Rows.serviceBranchesRow.named == Tryz.prog.varsNamed 4) = true := by
  unfold Program.varsNamed
  rw [cloB']
  kernel_rfl
end Go.Proofs.YtcbacbfjjahcbaaGreatDoor
