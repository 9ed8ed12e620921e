/- What the row tells of the functions that the law comes to. -/
import Derived.Test.YtcbacbfjjahcbaaGreatDoorFaB
import Derived.Test.YtcbacbfjjahcbaaGreatDoorFbB
namespace Go.Proofs.YtcbacbfjjahcbaaGreatDoor
open Go
set_option maxRecDepth 1000000
theorem cloB : Tryz.prog.closure 4 = clBL := by
  unfold Program.closure
  rw [fuelB]
  exact cloViaB
theorem unfB : Tryz.prog.unfollowed 4 = true := by
  unfold Program.unfollowed
  rw [cloB]
  kernel_rfl
theorem recB : Tryz.prog.recurses 4 = true := by
  unfold Program.recurses
  rw [unfB]
  rfl
theorem inpB : (Rows.serviceBranchesRow.inPlace == Tryz.prog.inPlace 4) = true := by
  unfold Program.inPlace
  rw [cloB]
  kernel_rfl
end Go.Proofs.YtcbacbfjjahcbaaGreatDoor
