/- What the row tells of the functions that the law comes to. -/
import Derived.Test.YtpjkcfglojigmaaGreatDoorFaS
import Derived.Test.YtpjkcfglojigmaaGreatDoorFbS
namespace Go.Proofs.YtpjkcfglojigmaaGreatDoor
open Go
set_option maxRecDepth 1000000
theorem cloS : Tryz.prog.closure 3 = clSL := by
  unfold Program.closure
  rw [fuelS]
  exact cloViaS
theorem unfS : Tryz.prog.unfollowed 3 = true := by
  unfold Program.unfollowed
  rw [cloS]
  kernel_rfl
theorem recS : Tryz.prog.recurses 3 = true := by
  unfold Program.recurses
  rw [unfS]
  rfl
theorem inpS : (Rows.serviceCodesUptoRow.inPlace == Tryz.prog.inPlace 3) = true := by
  unfold Program.inPlace
  rw [cloS]
  kernel_rfl
end Go.Proofs.YtpjkcfglojigmaaGreatDoor
