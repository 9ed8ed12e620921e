/- What the row tells of the functions that the law comes to. -/
import Derived.Test.YtcbacbfjjahcbaaGreatDoorFaC
import Derived.Test.YtcbacbfjjahcbaaGreatDoorFbC
namespace Go.Proofs.YtcbacbfjjahcbaaGreatDoor
open Go
set_option maxRecDepth 1000000
theorem cloC : Tryz.prog.closure 3 = clCL := by
  unfold Program.closure
  rw [fuelC]
  exact cloViaC
theorem unfC : Tryz.prog.unfollowed 3 = true := by
  unfold Program.unfollowed
  rw [cloC]
  kernel_rfl
theorem recC : Tryz.prog.recurses 3 = true := by
  unfold Program.recurses
  rw [unfC]
  rfl
theorem inpC : (Rows.serviceConflictsRow.inPlace == Tryz.prog.inPlace 3) = true := by
  unfold Program.inPlace
  rw [cloC]
  kernel_rfl
end Go.Proofs.YtcbacbfjjahcbaaGreatDoor
